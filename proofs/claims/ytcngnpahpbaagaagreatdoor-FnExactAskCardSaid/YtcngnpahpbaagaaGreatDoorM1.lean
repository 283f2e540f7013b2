/- What the pure statement needs (1). No condition. -/
import Derived.Test.YtcngnpahpbaagaaGreatDoorEG4
import Derived.Laws.BitsLemmas
import Derived.Test.YtcngnpahpbaagaaGreatDoorTHe1
import Derived.Test.YtcngnpahpbaagaaGreatDoorTHe2
import Derived.Test.YtcngnpahpbaagaaGreatDoorTHe3
namespace Go.Proofs.YtcngnpahpbaagaaGreatDoor.E
set_option linter.unusedVariables false
theorem w64_id {n:Int} (h:-9223372036854775808≤n) (h':n≤9223372036854775807):w64 n=n:=by
 show IntKind.i64.wrap n=n
 rw [IntKind.wrap_i64]; omega
theorem w8_id {n:Int} (h:0≤n) (h':n≤255):w8 n=n:=by
 show IntKind.u8.wrap n=n
 rw [IntKind.wrap_u8]; omega
theorem w64_succ {i:Nat} {n:Nat} (h:i < n) (hn:n≤9223372036854775807):w64 ((i:Int)+1)=((i+1:Nat):Int):=by
 rw [w64_id (by omega) (by omega)]; omega
theorem wraps_i64 (j:Nat) (hj:j≤63) (n:Int) (h₀:0≤n) (h₁:n < 2 ^ j):IntKind.i64.wrap n=n:=by
 rw [IntKind.wrap_i64]
 have:(2:Int) ^ j≤2 ^ 63:=by exact_mod_cast Nat.pow_le_pow_right (by omega) hj
 omega
theorem and_127 {x:Int} (h0:0≤x) (h1:x < 9223372036854775808):Go.bits .and .i64 x 127=x % 128 :=
 bits_mask .i64 63 (by decide) (wraps_i64 63 (by omega)) 7 (by decide) x h0 h1
theorem or_128 {x:Int} (h0:0≤x) (h1:x < 128):Go.bits .or .i64 x 128=x+128:=by
 obtain ⟨a,rfl⟩:=Int.eq_ofNat_of_zero_le h0
 have e:=(bits_nat .i64 63 (by decide) (wraps_i64 63 (by omega)) a 128 (by omega) (by decide)).2
 have e2:=Nat.two_pow_add_eq_or_of_lt (i:=7) (b:=a) (by omega) 1
 have e3:((128:Nat):Int)=128:=rfl
 rw [e3] at e
 rw [e,Nat.or_comm]
 simp at e2
 omega
theorem room_eq:room=4294967296:=rfl
theorem amb_self {ρ:Type} (a:Option ρ):amb a a=a:=by unfold amb; rw [if_pos rfl]
theorem getD_lt {α:Type} {l:List α} {i:Nat} (h:i < l.length) (z:α):l.getD i z=l[i]:=by
 rw [List.getD_eq_getElem?_getD,List.getElem?_eq_getElem h]; rfl
theorem getD_nat {α:Type} {l:List α} {i:Nat} (h:i < l.length) (z:α):l.getD (i:Int).toNat z=l[i]:=by
 rw [Int.toNat_natCast]; exact getD_lt h z
theorem to_loop {α β:Type} (L:List β→Int→Option (List β × Unit)) (f:α→β) (l:List α)
  (step:∀ (acc:List β) (i:Nat) (h:i < l.length),acc.length=l.length→L acc i=L (acc.set i (f l[i])) ((i+1:Nat):Int))
  (stop:∀ acc:List β,acc.length=l.length→L acc (l.length:Int)=some (acc,())) (acc:List β) (ha:acc.length=l.length):L acc 0=some (l.map f,()):=by
 have key:∀ (d i:Nat) (acc:List β),acc.length=l.length→i+d=l.length→(∀ j (hj:j < i) (h:j < l.length),acc[j]? = some (f l[j]))→L acc (i:Int)=some (l.map f,()):=by
  intro d
  induction d with
  | zero =>
   intro i acc ha hd hj
   have hi:i=l.length:=by omega
   subst hi
   rw [stop acc ha]
   congr 2
   apply List.ext_getElem?
   intro j
   by_cases h:j < l.length
   ·rw [hj j h h,List.getElem?_map,List.getElem?_eq_getElem h]; rfl
   ·rw [List.getElem?_eq_none (by omega),List.getElem?_eq_none (by rw [List.length_map]; omega)]
  | succ d ih =>
   intro i acc ha hd hj
   have hi:i < l.length:=by omega
   rw [step acc i hi ha]
   refine ih (i+1) _ (by rw [List.length_set]; exact ha) (by omega) fun j hji h=>?_
   by_cases e:i=j
   ·subst e
    rw [List.getElem?_set_self (by omega)]
   ·rw [List.getElem?_set_ne e]
    exact hj j (by omega) h
 exact key l.length 0 acc ha (by omega) fun j hj _=>absurd hj (by omega)
theorem all_loop {ρ α:Type} (L:Int→Option ρ) (l:List α) (y:Option ρ) (step:∀ (i:Nat) (h:i < l.length),L i=L ((i+1:Nat):Int)) (stop:L (l.length:Int)=y):L 0=y:=by
 have key:∀ (d i:Nat),i+d=l.length→L (i:Int)=y:=by
  intro d
  induction d with
  | zero=>intro i hd; rw [show i=l.length by omega]; exact stop
  | succ d ih=>intro i hd; rw [step i (by omega)]; exact ih (i+1) (by omega)
 exact key l.length 0 (by omega)
theorem getD_set {α:Type} {l:List α} {i:Nat} (h:i < l.length) (a z:α):(l.set i a).getD i z=a:=by
 rw [List.getD_eq_getElem?_getD,List.getElem?_set_self h]; rfl
theorem sz_rows {α:Type} (L:Int→Int→Option (Int × Unit)) (S:α→Int→Option (Int × Unit)) (l:List α) (Q:α→Prop) (hl:l.length≤9223372036854775807)
  (hS:∀ x∈l,∀ k:Int,0≤k→k≤1048576→∃ r,S x k=some (r,())∧r≤1048576∧(0≤r→Q x))
  (stop:∀ k,L k (l.length:Int)=some (k,()))
  (step:∀ (k:Int) (i:Nat) (h:i < l.length),L k i=(S l[i] k).bind fun (r0:Int × Unit)=>if (decide (r0.1 < 0))=true then some ((-1),()) else L r0.1 ((i+1:Nat):Int))
  (n:Int) (h0:0≤n) (h1:n≤1048576):∃ r,L n 0=some (r,())∧r≤1048576∧(0≤r→∀ x∈l,Q x):=by
 have key:∀ (d i:Nat) (k:Int),i+d=l.length→0≤k→k≤1048576→∃ r,L k i=some (r,())∧r≤1048576∧(0≤r→∀ j (h:j < l.length),i≤j→Q l[j]):=by
  intro d
  induction d with
  | zero =>
   intro i k hd k0 k1
   have hi:i=l.length:=by omega
   subst hi
   exact ⟨k,stop k,k1,fun _ j hj hij=>by omega⟩
  | succ d ih =>
   intro i k hd k0 k1
   have hi:i < l.length:=by omega
   obtain ⟨r,e1,e2,e3⟩:=hS l[i] (List.getElem_mem hi) k k0 k1
   rw [step k i hi,e1,Option.bind_some]
   by_cases h:r < 0
   ·rw [if_pos (decide_eq_true h)]
    exact ⟨-1,rfl,by omega,fun h=>by omega⟩
   ·rw [if_neg (by rw [decide_eq_true_eq]; exact h)]
    obtain ⟨r',g1,g2,g3⟩:=ih (i+1) r (by omega) (by omega) e2
    refine ⟨r',g1,g2,fun hr j hj hij=>?_⟩
    by_cases e:j=i
    ·subst e; exact e3 (by omega)
    ·exact g3 hr j hj (by omega)
 obtain ⟨r,e1,e2,e3⟩:=key l.length 0 n (by omega) h0 h1
 exact ⟨r,e1,e2,fun hr x hx=>by
  obtain ⟨j,hj,rfl⟩:=List.mem_iff_getElem.1 hx
  exact e3 hr j hj (by omega)⟩
theorem mark_rows {α:Type} (L:List α→Int→Int→Option (Int × List α × Unit)) (H:List α→Int→Int→Option (Int × Unit)) (P:α→Prop) (b:Nat) (bd:Int)
  (stop:∀ a k,L a k (a.length:Int)=some (k,a,())) (hstop:∀ a k,H a k (a.length:Int)=some (k,()))
  (step:∀ (a:List α) (k:Int) (i:Nat) (h:i < a.length),a.length≤4294967296→P a[i]→0≤k→k+b≤bd →
   ∃ y k',L a k i=L (a.set i y) k' ((i+1:Nat):Int)∧k≤k'∧k'≤k+b∧∀ (c:List α) (hc:i < c.length),c.length≤4294967296→c[i]=y→H c k i=H c k' ((i+1:Nat):Int))
  (l:List α) (k:Int) (hl:l.length≤4294967296) (hP:∀ x∈l,P x) (hk:0≤k) (hb:k+b * l.length≤bd) :
  ∃ k' l',L l k 0=some (k',l',())∧H l' k 0=some (k',())∧l'.length=l.length∧k≤k'∧k'≤k+b * l.length:=by
 have hs:∀ d:Nat,(b * ((d+1:Nat):Int):Int)=b * d+b:=fun d=>by rw [Int.natCast_add,Int.mul_add]; simp
 have hz:∀ d:Nat,(0:Int)≤b * d:=fun d=>by exact_mod_cast Nat.zero_le (b * d)
 have key:∀ (d i:Nat) (a:List α) (k:Int),i+d=a.length→a.length≤4294967296→(∀ j (h:j < a.length),i≤j→P a[j])→0≤k→k+b * d≤bd →
   ∃ k' a',L a k (i:Int)=some (k',a',())∧k≤k'∧k'≤k+b * d∧a'.length=a.length∧(∀ j,j < i→a'[j]? = a[j]?) ∧
    ∀ c:List α,c.length=a.length→(∀ j,i≤j→c[j]? = a'[j]?)→H c k (i:Int)=some (k',()):=by
  intro d
  induction d with
  | zero =>
   intro i a k hd hl hp hk hb
   have hi:i=a.length:=by omega
   subst hi
   refine ⟨k,a,stop a k,Int.le_refl k,by simp,rfl,fun _ _=>rfl,fun c hc _=>?_⟩
   rw [← hc]; exact hstop c k
  | succ d ih =>
   intro i a k hd hl hp hk hb
   have hi:i < a.length:=by omega
   have h0:=hz d
   rw [hs] at hb
   obtain ⟨y,k1,e1,e2,e3,e4⟩:=step a k i hi hl (hp i hi (Nat.le_refl i)) hk (by omega)
   obtain ⟨k',a',f1,f2,f3,f4,f5,f6⟩:=ih (i+1) (a.set i y) k1 (by rw [List.length_set]; omega) (by rw [List.length_set]; exact hl)
    (fun j hj hij=>by rw [List.getElem_set_ne (by omega)]; exact hp j (by rw [List.length_set] at hj; exact hj) (by omega)) (by omega) (by omega)
   rw [List.length_set] at f4 f6
   refine ⟨k',a',e1.trans f1,by omega,by rw [hs]; omega,f4,fun j hj=>?_,fun c hc hcj=>?_⟩
   ·rw [f5 j (by omega),List.getElem?_set_ne (by omega)]
   ·have hic:i < c.length:=by omega
    have hc0:c[i]? = some y:=by rw [hcj i (Nat.le_refl i),f5 i (by omega),List.getElem?_set_self hi]
    rw [List.getElem?_eq_getElem hic] at hc0
    rw [e4 c hic (by omega) (Option.some.inj hc0)]
    exact f6 c hc fun j hj=>hcj j (by omega)
 obtain ⟨k',a',e1,e2,e3,e4,_,e6⟩:=key l.length 0 l k (by omega) hl (fun j hj _=>hP _ (List.getElem_mem hj)) hk hb
 exact ⟨k',a',e1,e6 a' e4 fun _ _=>rfl,e4,e2,e3⟩
theorem app_loop {α:Type} (L:List α→Int→Option (List α × Unit)) (l:List α) (step:∀ (acc:List α) (i:Nat) (h:i < l.length),acc.length≤l.length→L acc i=L (acc ++ [l[i]]) ((i+1:Nat):Int))
  (stop:∀ acc,L acc (l.length:Int)=some (acc,())):L [] 0=some (l,()):=by
 have key:∀ (d i:Nat) (acc:List α),i+d=l.length→acc=l.take i→L acc (i:Int)=some (l,()):=by
  intro d
  induction d with
  | zero =>
   intro i acc hd ha
   have hi:i=l.length:=by omega
   subst hi
   rw [stop,ha,List.take_length]
  | succ d ih =>
   intro i acc hd ha
   have hi:i < l.length:=by omega
   rw [step acc i hi (by rw [ha,List.length_take]; omega)]
   refine ih (i+1) _ (by omega) ?_
   rw [ha,List.take_succ_eq_append_getElem hi]
 exact key l.length 0 [] (by omega) (by simp)
end Go.Proofs.YtcngnpahpbaagaaGreatDoor.E
namespace Go.Proofs.YtcngnpahpbaagaaGreatDoor.E.TH
open Go.Proofs.YtcngnpahpbaagaaGreatDoor.E
set_option linter.unusedVariables false
theorem markText_L1_ok (n:Nat):∀ (k:Int) (s:List Int),k≤9223372036854775807→0≤k→k < 10 ^ n→s.length+n≤1000→∃ t,l_markText_L1 k s=some (t,()):=by
 induction n with
 | zero =>
  intro k s h h0 hk hs
  have:k=0:=by simp at hk; omega
  subst this
  rw [l_markText_L1_eq,if_neg (by simp),if_pos (by show 1+s.length≤_; omega)]
  exact ⟨_,rfl⟩
 | succ n ih =>
  intro k s h h0 hk hs
  rw [l_markText_L1_eq]
  by_cases h:k > 0
  ·rw [if_pos (decide_eq_true h),if_pos (by show 1+s.length≤_; omega),Int.tdiv_eq_ediv_of_nonneg h0,w64_id (n:=k / 10) (by omega) (by omega)]
   refine ih (k / 10) _ (by omega) (by omega) ?_ (by show (s.length+1)+n≤1000; omega)
   rw [Int.pow_succ] at hk
   omega
  ·rw [if_neg (by rw [decide_eq_true_eq]; exact h),if_pos (by show 1+s.length≤_; omega)]
   exact ⟨_,rfl⟩
theorem markText_ok (k:Int) (h:k≤9223372036854775807):∃ t,l_markText k=some (t,()):=by
 rw [l_markText_eq]
 by_cases h0:k≤0
 ·rw [if_pos (decide_eq_true h0)]; exact ⟨_,rfl⟩
 ·rw [if_neg (by rw [decide_eq_true_eq]; exact h0)]
  exact markText_L1_ok 19 k [] h (by omega) (by omega) (by simp)
open Classical in
noncomputable def mText (k:Int):List Int:=if h:∃ t,l_markText k=some (t,()) then Classical.choose h else []
theorem markText_eq (k:Int) (h:k≤9223372036854775807):l_markText k=some (mText k,()):=by
 have:=markText_ok k h
 unfold mText
 rw [dif_pos this]
 exact Classical.choose_spec this
def Gl_Cmd (M:Nat) (x:laws_Cmd):Prop:=x.Line.length≤M
def Gi_Cmd (M:Nat) (x:impl_Cmd):Prop:=x.Line.length≤M
def Gl_Entry (M:Nat) (x:laws_Entry):Prop:=Gl_Cmd M x.C
def Gi_Entry (M:Nat) (x:impl_Entry):Prop:=Gi_Cmd M x.C
def Gl_Log (M:Nat) (x:laws_Log):Prop:=(x.List.length≤M∧∀ y∈x.List,Gl_Entry M y)
def Gi_Log (M:Nat) (x:impl_Log):Prop:=(x.List.length≤M∧∀ y∈x.List,Gi_Entry M y)
def Gl_Val (M:Nat) (x:laws_Val):Prop:=x.S.length≤M
def Gi_Val (M:Nat) (x:impl_Val):Prop:=x.S.length≤M
def Gl_Cell (M:Nat) (x:laws_Cell):Prop:=x.Key.length≤M∧Gl_Val M x.Val
def Gi_Cell (M:Nat) (x:impl_Cell):Prop:=x.Key.length≤M∧Gi_Val M x.Val
def Gl_State (M:Nat) (x:laws_State):Prop:=(x.Vars.length≤M∧∀ y∈x.Vars,Gl_Val M y)∧(x.Cells.length≤M∧∀ y∈x.Cells,Gl_Cell M y)
def Gi_State (M:Nat) (x:impl_State):Prop:=(x.Vars.length≤M∧∀ y∈x.Vars,Gi_Val M y)∧(x.Cells.length≤M∧∀ y∈x.Cells,Gi_Cell M y)
def Gl_Mach (M:Nat) (x:laws_Mach):Prop:=Gl_State M x.State∧x.Done.length≤M∧x.Out.length≤M
def Gi_Mach (M:Nat) (x:impl_Mach):Prop:=Gi_State M x.State∧x.Done.length≤M∧x.Out.length≤M
def Gl_Hard (M:Nat) (x:laws_Hard):Prop:=Gl_Log M x.Log∧Gl_Mach M x.Snap
def Gi_Hard (M:Nat) (x:impl_Hard):Prop:=Gi_Log M x.Log∧Gi_Mach M x.Snap
def Gl_Disk (M:Nat) (x:laws_Disk):Prop:=x.Bytes.length≤M
def Gi_Disk (M:Nat) (x:impl_Disk):Prop:=x.Bytes.length≤M
def Gl_Rpc (M:Nat) (x:laws_Rpc):Prop:=(x.List.length≤M∧∀ y∈x.List,Gl_Entry M y)∧x.Snap.length≤M
def Gi_Rpc (M:Nat) (x:impl_Rpc):Prop:=(x.List.length≤M∧∀ y∈x.List,Gi_Entry M y)∧x.Snap.length≤M
def Gl_Peer (M:Nat) (x:laws_Peer):Prop:=Gl_Hard M x.Hard∧x.Votes.length≤M∧x.Next.length≤M∧x.Match.length≤M∧Gl_Mach M x.Now∧Gl_Disk M x.Disk∧(x.Held.length≤M∧∀ y∈x.Held,Gl_Rpc M y)
def Gi_Peer (M:Nat) (x:impl_Peer):Prop:=Gi_Hard M x.Hard∧x.Votes.length≤M∧x.Next.length≤M∧x.Match.length≤M∧Gi_Mach M x.Now∧Gi_Disk M x.Disk∧(x.Held.length≤M∧∀ y∈x.Held,Gi_Rpc M y)
theorem hf_Cmd {d:Nat} {x:laws_Cmd} (h:Fine (G:=gam) (d+3) (.nm 8) x):Gl_Cmd 9223372036854775807 x:=by
 have h':_∧_∧(x.Line.length≤9223372036854775807∧_)∧_:=h
 unfold Gl_Cmd
 exact h'.2.2.1.1
theorem hf_Entry {d:Nat} {x:laws_Entry} (h:Fine (G:=gam) (d+4) (.nm 7) x):Gl_Entry 9223372036854775807 x:=by
 have h':_∧Fine (G:=gam) (d+3) (.nm 8) x.C∧_:=h
 unfold Gl_Entry
 exact hf_Cmd (d:=d+0) h'.2.1
theorem hf_Log {d:Nat} {x:laws_Log} (h:Fine (G:=gam) (d+6) (.nm 6) x):Gl_Log 9223372036854775807 x:=by
 have h':_∧_∧(x.List.length≤9223372036854775807∧∀ y∈x.List,Fine (G:=gam) (d+4) (.nm 7) y)∧_:=h
 unfold Gl_Log
 exact ⟨h'.2.2.1.1,fun y hy=>hf_Entry (d:=d+0) (h'.2.2.1.2 y hy)⟩
theorem hf_Val {d:Nat} {x:laws_Val} (h:Fine (G:=gam) (d+3) (.nm 11) x):Gl_Val 9223372036854775807 x:=by
 have h':_∧_∧(x.S.length≤9223372036854775807∧_)∧_:=h
 unfold Gl_Val
 exact h'.2.2.1.1
theorem hf_Cell {d:Nat} {x:laws_Cell} (h:Fine (G:=gam) (d+4) (.nm 12) x):Gl_Cell 9223372036854775807 x:=by
 have h':_∧(x.Key.length≤9223372036854775807∧_)∧Fine (G:=gam) (d+3) (.nm 11) x.Val∧_:=h
 unfold Gl_Cell
 exact ⟨h'.2.1.1,hf_Val (d:=d+0) h'.2.2.1⟩
theorem hf_State {d:Nat} {x:laws_State} (h:Fine (G:=gam) (d+6) (.nm 10) x):Gl_State 9223372036854775807 x:=by
 have h':(x.Vars.length≤9223372036854775807∧∀ y∈x.Vars,Fine (G:=gam) (d+4) (.nm 11) y)∧(x.Cells.length≤9223372036854775807∧∀ y∈x.Cells,Fine (G:=gam) (d+4) (.nm 12) y)∧_∧_∧_:=h
 unfold Gl_State
 exact ⟨⟨h'.1.1,fun y hy=>hf_Val (d:=d+1) (h'.1.2 y hy)⟩,⟨h'.2.1.1,fun y hy=>hf_Cell (d:=d+0) (h'.2.1.2 y hy)⟩⟩
theorem hf_Mach {d:Nat} {x:laws_Mach} (h:Fine (G:=gam) (d+7) (.nm 9) x):Gl_Mach 9223372036854775807 x:=by
 have h':Fine (G:=gam) (d+6) (.nm 10) x.State∧(x.Done.length≤9223372036854775807∧_)∧(x.Out.length≤9223372036854775807∧_)∧_:=h
 unfold Gl_Mach
 exact ⟨hf_State (d:=d+0) h'.1,h'.2.1.1,h'.2.2.1.1⟩
theorem hf_Hard {d:Nat} {x:laws_Hard} (h:Fine (G:=gam) (d+8) (.nm 5) x):Gl_Hard 9223372036854775807 x:=by
 have h':_∧_∧Fine (G:=gam) (d+7) (.nm 6) x.Log∧Fine (G:=gam) (d+7) (.nm 9) x.Snap∧_:=h
 unfold Gl_Hard
 exact ⟨hf_Log (d:=d+1) h'.2.2.1,hf_Mach (d:=d+0) h'.2.2.2.1⟩
theorem hf_Disk {d:Nat} {x:laws_Disk} (h:Fine (G:=gam) (d+3) (.nm 13) x):Gl_Disk 9223372036854775807 x:=by
 have h':(x.Bytes.length≤9223372036854775807∧_)∧_∧_:=h
 unfold Gl_Disk
 exact h'.1.1
theorem hf_Rpc {d:Nat} {x:laws_Rpc} (h:Fine (G:=gam) (d+6) (.nm 14) x):Gl_Rpc 9223372036854775807 x:=by
 have h':_∧_∧_∧_∧_∧_∧_∧(x.List.length≤9223372036854775807∧∀ y∈x.List,Fine (G:=gam) (d+4) (.nm 7) y)∧_∧(x.Snap.length≤9223372036854775807∧_)∧_:=h
 unfold Gl_Rpc
 exact ⟨⟨h'.2.2.2.2.2.2.2.1.1,fun y hy=>hf_Entry (d:=d+0) (h'.2.2.2.2.2.2.2.1.2 y hy)⟩,h'.2.2.2.2.2.2.2.2.2.1.1⟩
theorem hf_Peer {d:Nat} {x:laws_Peer} (h:Fine (G:=gam) (d+9) (.nm 4) x):Gl_Peer 9223372036854775807 x:=by
 have h':_∧Fine (G:=gam) (d+8) (.nm 5) x.Hard∧_∧(x.Votes.length≤9223372036854775807∧_)∧(x.Next.length≤9223372036854775807∧_)∧(x.Match.length≤9223372036854775807∧_)∧_∧Fine (G:=gam) (d+8) (.nm 9) x.Now∧Fine (G:=gam) (d+8) (.nm 13) x.Disk∧(x.Held.length≤9223372036854775807∧∀ y∈x.Held,Fine (G:=gam) (d+7) (.nm 14) y)∧_:=h
 unfold Gl_Peer
 exact ⟨hf_Hard (d:=d+0) h'.2.1,h'.2.2.2.1.1,h'.2.2.2.2.1.1,h'.2.2.2.2.2.1.1,hf_Mach (d:=d+1) h'.2.2.2.2.2.2.2.1,hf_Disk (d:=d+5) h'.2.2.2.2.2.2.2.2.1,⟨h'.2.2.2.2.2.2.2.2.2.1.1,fun y hy=>hf_Rpc (d:=d+1) (h'.2.2.2.2.2.2.2.2.2.1.2 y hy)⟩⟩
theorem hsz_Cmd (x:laws_Cmd) (n:Int) (h:Gl_Cmd 9223372036854775807 x) (h0:0≤n) (h1:n≤1048576):∃ r,l_szCmd x n=some (r,())∧r≤1048576∧(0≤r→Gl_Cmd 1048576 x):=by
 unfold Gl_Cmd at h
 rw [l_szCmd_eq]
 have hl0:=h
 rw [w64_id (n:=n - (x.Line.length:Int)) (by omega) (by omega)]
 by_cases c0:n - (x.Line.length:Int) < 0
 ·rw [if_pos (decide_eq_true c0)]; exact ⟨-1,rfl,by omega,fun h=>by omega⟩
 rw [if_neg (by rw [decide_eq_true_eq]; exact c0)]
 exact ⟨_,rfl,by omega,fun _=>by unfold Gl_Cmd; exact by omega⟩
def hc_Cmd (x:laws_Cmd):impl_Cmd:=⟨x.Who,x.Seq,x.Line⟩
theorem hto_Cmd (x:laws_Cmd) (h:Gl_Cmd 1048576 x):l_toCmd x=some (hc_Cmd x,()):=by
 unfold Gl_Cmd at h
 rw [l_toCmd_eq]
 rfl
theorem hg_Cmd {x:laws_Cmd} {M:Nat} (h:Gl_Cmd M x):Gi_Cmd M (hc_Cmd x):=by
 unfold Gl_Cmd at h
 unfold Gi_Cmd hc_Cmd
 exact h
theorem heq_Cmd (x:impl_Cmd) (h:Gi_Cmd 2097152 x):l_eqCmd x x=some (true,()):=by
 unfold Gi_Cmd at h
 rw [l_eqCmd_eq]
 simp
theorem hsz_Entry (x:laws_Entry) (n:Int) (h:Gl_Entry 9223372036854775807 x) (h0:0≤n) (h1:n≤1048576):∃ r,l_szEntry x n=some (r,())∧r≤1048576∧(0≤r→Gl_Entry 1048576 x):=by
 unfold Gl_Entry at h
 rw [l_szEntry_eq]
 obtain ⟨r0,e0,f0,g0⟩:=hsz_Cmd x.C n (h) (by omega) (by omega)
 rw [e0,Option.bind_some]
 dsimp only
 by_cases c0:r0 < 0
 ·rw [if_pos (decide_eq_true c0)]; exact ⟨-1,rfl,by omega,fun h=>by omega⟩
 rw [if_neg (by rw [decide_eq_true_eq]; exact c0)]
 exact ⟨_,rfl,by omega,fun _=>by unfold Gl_Entry; exact g0 (by omega)⟩
def hc_Entry (x:laws_Entry):impl_Entry:=⟨x.Term,(hc_Cmd x.C)⟩
theorem hto_Entry (x:laws_Entry) (h:Gl_Entry 1048576 x):l_toEntry x=some (hc_Entry x,()):=by
 unfold Gl_Entry at h
 rw [l_toEntry_eq]
 rw [hto_Cmd _ (h),Option.bind_some]
 rfl
theorem hg_Entry {x:laws_Entry} {M:Nat} (h:Gl_Entry M x):Gi_Entry M (hc_Entry x):=by
 unfold Gl_Entry at h
 unfold Gi_Entry hc_Entry
 exact hg_Cmd (h)
theorem heq_Entry (x:impl_Entry) (h:Gi_Entry 2097152 x):l_eqEntry x x=some (true,()):=by
 unfold Gi_Entry at h
 rw [l_eqEntry_eq]
 rw [heq_Cmd _ (h)]
 simp
theorem hsz_EntryS (l:List laws_Entry) (n:Int) (h:l.length≤9223372036854775807∧∀ x∈l,Gl_Entry 9223372036854775807 x) (h0:0≤n) (h1:n≤1048576):∃ r,l_szEntryS l n=some (r,())∧r≤1048576∧(0≤r→l.length≤1048576∧∀ x∈l,Gl_Entry 1048576 x):=by
 have hl:=h.1
 rw [l_szEntryS_eq,w64_id (n:=n - (l.length:Int)) (by omega) (by omega)]
 by_cases c:n - (l.length:Int) < 0
 ·rw [if_pos (decide_eq_true c)]; exact ⟨-1,rfl,by omega,fun h=>by omega⟩
 ·rw [if_neg (by rw [decide_eq_true_eq]; exact c)]
  obtain ⟨r,e1,e2,e3⟩:=sz_rows (fun k i=>l_szEntryS_L1 l k i) l_szEntry l (Gl_Entry 1048576) (by omega) (fun x hx k k0 k1=>hsz_Entry x k (h.2 x hx) k0 k1)
   (fun k=>by show l_szEntryS_L1 l k _=_; rw [l_szEntryS_L1_eq,if_neg (by simp)])
   (fun k i hi=>by show l_szEntryS_L1 l k i=_; rw [l_szEntryS_L1_eq,if_pos (decide_eq_true (by omega)),if_pos (by omega),getD_nat hi,w64_succ hi (by omega)]) (n - l.length) (by omega) (by omega)
  exact ⟨r,e1,e2,fun hr=>⟨by omega,e3 hr⟩⟩
theorem hto_EntryS (l:List laws_Entry) (h:l.length≤1048576∧∀ x∈l,Gl_Entry 1048576 x):l_toEntryS l=some (l.map hc_Entry,()):=by
 rw [l_toEntryS_eq,if_pos (by have:=h.1; rw [room_eq]; omega)]
 have:=to_loop (fun acc i=>l_toEntryS_L1 l acc i) hc_Entry l (fun acc i hi ha=>by
  show l_toEntryS_L1 l acc i=_
  have hl:=h.1
  rw [l_toEntryS_L1_eq,if_pos (decide_eq_true (by omega)),if_pos (by omega),getD_nat hi,hto_Entry _ (h.2 _ (List.getElem_mem hi)),Option.bind_some,if_pos (by omega),w64_succ hi (by omega),Int.toNat_natCast]
  ) (fun acc ha=>by
  show l_toEntryS_L1 l acc _=_
  rw [l_toEntryS_L1_eq,if_neg (by simp)]) (List.replicate (List.length l:Int).toNat z_impl_Entry) (by simp)
 exact this
theorem heq_EntryS (l:List impl_Entry) (h:l.length≤2097152∧∀ x∈l,Gi_Entry 2097152 x):l_eqEntryS l l=some (true,()):=by
 have hl:=h.1
 rw [l_eqEntryS_eq,if_neg (by simp)]
 exact all_loop (fun i=>l_eqEntryS_L1 l l i) l _ (fun i hi=>by
  show l_eqEntryS_L1 l l i=_
  rw [l_eqEntryS_L1_eq,if_pos (decide_eq_true (by omega)),if_pos (by omega),if_pos (by omega),getD_nat hi,heq_Entry _ (h.2 _ (List.getElem_mem hi)),Option.bind_some,if_neg (by simp),w64_succ hi (by omega)]) (by
  show l_eqEntryS_L1 l l _=_
  rw [l_eqEntryS_L1_eq,if_neg (by simp)])
theorem hmk_EntryS (l:List impl_Entry) (k:Int) (h:l.length≤2097152∧∀ x∈l,Gi_Entry 2097152 x) (hk:0≤k) (hb:k+8388608≤2305843009213693952):∃ k' l',l_markEntryS l k=some (k',l',())∧l_heldEntryS l' k=some (k',())∧l'.length=l.length∧k≤k'∧k'≤k+8388608:=by
 have hl:=h.1
 rw [l_markEntryS_eq]
 have step:∀ (a:List impl_Entry) (k:Int) (i:Nat) (hi:i < a.length),a.length≤4294967296→(Gi_Entry 2097152) a[i]→0≤k→k+(4:Nat)≤2305843009213693952→∃ y k',l_markEntryS_L1 a k i=l_markEntryS_L1 (a.set i y) k' ((i+1:Nat):Int)∧k≤k'∧k'≤k+(4:Nat)∧∀ (d:List impl_Entry) (hd:i < d.length),d.length≤4294967296→d[i]=y→l_heldEntryS_L1 d k i=l_heldEntryS_L1 d k' ((i+1:Nat):Int):=by
  intro a k i hi ha hp hk hb
  have c:(0:Int)≤(i:Int)∧(i:Int) < (a.length:Int):=by omega
  refine ⟨⟨k,⟨k+1,k+1+1,mText (k+1+1+1)⟩⟩,k+1+1+1+1,?_,by omega,by omega,fun d hd hdl hdy=>?_⟩
  ·show l_markEntryS_L1 a k i=l_markEntryS_L1 _ _ _
   rw [l_markEntryS_L1_eq,if_pos (decide_eq_true c.2),if_pos c,w64_id (n:=k+1) (by omega) (by omega),w64_id (n:=k+1+1) (by omega) (by omega),w64_id (n:=k+1+1+1) (by omega) (by omega),w64_id (n:=k+1+1+1+1) (by omega) (by omega),w64_succ hi (by omega),markText_eq _ (by omega)]
   simp only [List.length_set,if_pos c,Option.bind_some,Int.toNat_natCast,getD_set,hi,List.set_set]
  ·show l_heldEntryS_L1 d k i=l_heldEntryS_L1 _ _ _
   have c2:(0:Int)≤(i:Int)∧(i:Int) < (d.length:Int):=by omega
   rw [l_heldEntryS_L1_eq,if_pos (decide_eq_true c2.2),w64_id (n:=k+1) (by omega) (by omega),w64_id (n:=k+1+1) (by omega) (by omega),w64_id (n:=k+1+1+1) (by omega) (by omega),w64_id (n:=k+1+1+1+1) (by omega) (by omega),w64_succ hd (by omega),markText_eq _ (by omega),getD_nat hd,hdy]
   simp only [if_pos c2,Option.bind_some,decide_true,Bool.not_true,Bool.false_eq_true,if_false]
 obtain ⟨k',l',e1,e2,e3,e4,e5⟩:=mark_rows (fun a k i=>l_markEntryS_L1 a k i) (fun a k i=>l_heldEntryS_L1 a k i) (Gi_Entry 2097152) 4 2305843009213693952
  (fun a k=>by show l_markEntryS_L1 a k _=_; rw [l_markEntryS_L1_eq,if_neg (by simp)])
  (fun a k=>by show l_heldEntryS_L1 a k _=_; rw [l_heldEntryS_L1_eq,if_neg (by simp)])
  step l k (by omega) (h.2) hk (by omega)
 exact ⟨k',l',e1,by rw [l_heldEntryS_eq]; exact e2,e3,e4,by omega⟩
theorem hsz_Log (x:laws_Log) (n:Int) (h:Gl_Log 9223372036854775807 x) (h0:0≤n) (h1:n≤1048576):∃ r,l_szLog x n=some (r,())∧r≤1048576∧(0≤r→Gl_Log 1048576 x):=by
 unfold Gl_Log at h
 rw [l_szLog_eq]
 obtain ⟨r0,e0,f0,g0⟩:=hsz_EntryS x.List n (h) (by omega) (by omega)
 rw [e0,Option.bind_some]
 dsimp only
 by_cases c0:r0 < 0
 ·rw [if_pos (decide_eq_true c0)]; exact ⟨-1,rfl,by omega,fun h=>by omega⟩
 rw [if_neg (by rw [decide_eq_true_eq]; exact c0)]
 exact ⟨_,rfl,by omega,fun _=>by unfold Gl_Log; exact g0 (by omega)⟩
def hc_Log (x:laws_Log):impl_Log:=⟨x.Base,x.BaseTerm,(x.List.map hc_Entry)⟩
theorem hto_Log (x:laws_Log) (h:Gl_Log 1048576 x):l_toLog x=some (hc_Log x,()):=by
 unfold Gl_Log at h
 rw [l_toLog_eq]
 rw [hto_EntryS _ (h),Option.bind_some]
 rfl
theorem hg_Log {x:laws_Log} {M:Nat} (h:Gl_Log M x):Gi_Log M (hc_Log x):=by
 unfold Gl_Log at h
 unfold Gi_Log hc_Log
 exact ⟨by rw [List.length_map]; exact (h).1,fun y hy=>by obtain ⟨x',hx',rfl⟩:=List.mem_map.1 hy; exact hg_Entry ((h).2 x' hx')⟩
theorem heq_Log (x:impl_Log) (h:Gi_Log 2097152 x):l_eqLog x x=some (true,()):=by
 unfold Gi_Log at h
 rw [l_eqLog_eq]
 rw [heq_EntryS _ (h)]
 simp
theorem hmk_Log (x:impl_Log) (k:Int) (h:Gi_Log 2097152 x) (hk:0≤k) (hb:k+8388608≤2305843009213693952):∃ k' x',l_markLog x k=some (k',x',())∧l_heldLog x' k=some (k',())∧k≤k'∧k'≤k+8388608:=by
 unfold Gi_Log at h
 obtain ⟨k0,x0,a0,b0,_,c0,d0⟩:=hmk_EntryS x.List k (h) (by omega) (by omega)
 refine ⟨k0,⟨x.Base,x.BaseTerm,x0⟩,?_,?_,by omega,by omega⟩
 ·rw [l_markLog_eq,a0,Option.bind_some]
 ·rw [l_heldLog_eq,b0,Option.bind_some,if_neg (by rw [decide_eq_true_eq]; omega)]
theorem hsz_Val (x:laws_Val) (n:Int) (h:Gl_Val 9223372036854775807 x) (h0:0≤n) (h1:n≤1048576):∃ r,l_szVal x n=some (r,())∧r≤1048576∧(0≤r→Gl_Val 1048576 x):=by
 unfold Gl_Val at h
 rw [l_szVal_eq]
 have hl0:=h
 rw [w64_id (n:=n - (x.S.length:Int)) (by omega) (by omega)]
 by_cases c0:n - (x.S.length:Int) < 0
 ·rw [if_pos (decide_eq_true c0)]; exact ⟨-1,rfl,by omega,fun h=>by omega⟩
 rw [if_neg (by rw [decide_eq_true_eq]; exact c0)]
 exact ⟨_,rfl,by omega,fun _=>by unfold Gl_Val; exact by omega⟩
def hc_Val (x:laws_Val):impl_Val:=⟨x.Kind,x.N,x.S⟩
theorem hto_Val (x:laws_Val) (h:Gl_Val 1048576 x):l_toVal x=some (hc_Val x,()):=by
 unfold Gl_Val at h
 rw [l_toVal_eq]
 rfl
theorem hg_Val {x:laws_Val} {M:Nat} (h:Gl_Val M x):Gi_Val M (hc_Val x):=by
 unfold Gl_Val at h
 unfold Gi_Val hc_Val
 exact h
theorem heq_Val (x:impl_Val) (h:Gi_Val 2097152 x):l_eqVal x x=some (true,()):=by
 unfold Gi_Val at h
 rw [l_eqVal_eq]
 simp
theorem hsz_ValS (l:List laws_Val) (n:Int) (h:l.length≤9223372036854775807∧∀ x∈l,Gl_Val 9223372036854775807 x) (h0:0≤n) (h1:n≤1048576):∃ r,l_szValS l n=some (r,())∧r≤1048576∧(0≤r→l.length≤1048576∧∀ x∈l,Gl_Val 1048576 x):=by
 have hl:=h.1
 rw [l_szValS_eq,w64_id (n:=n - (l.length:Int)) (by omega) (by omega)]
 by_cases c:n - (l.length:Int) < 0
 ·rw [if_pos (decide_eq_true c)]; exact ⟨-1,rfl,by omega,fun h=>by omega⟩
 ·rw [if_neg (by rw [decide_eq_true_eq]; exact c)]
  obtain ⟨r,e1,e2,e3⟩:=sz_rows (fun k i=>l_szValS_L1 l k i) l_szVal l (Gl_Val 1048576) (by omega) (fun x hx k k0 k1=>hsz_Val x k (h.2 x hx) k0 k1)
   (fun k=>by show l_szValS_L1 l k _=_; rw [l_szValS_L1_eq,if_neg (by simp)])
   (fun k i hi=>by show l_szValS_L1 l k i=_; rw [l_szValS_L1_eq,if_pos (decide_eq_true (by omega)),if_pos (by omega),getD_nat hi,w64_succ hi (by omega)]) (n - l.length) (by omega) (by omega)
  exact ⟨r,e1,e2,fun hr=>⟨by omega,e3 hr⟩⟩
theorem hto_ValS (l:List laws_Val) (h:l.length≤1048576∧∀ x∈l,Gl_Val 1048576 x):l_toValS l=some (l.map hc_Val,()):=by
 rw [l_toValS_eq,if_pos (by have:=h.1; rw [room_eq]; omega)]
 have:=to_loop (fun acc i=>l_toValS_L1 l acc i) hc_Val l (fun acc i hi ha=>by
  show l_toValS_L1 l acc i=_
  have hl:=h.1
  rw [l_toValS_L1_eq,if_pos (decide_eq_true (by omega)),if_pos (by omega),getD_nat hi,hto_Val _ (h.2 _ (List.getElem_mem hi)),Option.bind_some,if_pos (by omega),w64_succ hi (by omega),Int.toNat_natCast]
  ) (fun acc ha=>by
  show l_toValS_L1 l acc _=_
  rw [l_toValS_L1_eq,if_neg (by simp)]) (List.replicate (List.length l:Int).toNat z_impl_Val) (by simp)
 exact this
theorem heq_ValS (l:List impl_Val) (h:l.length≤2097152∧∀ x∈l,Gi_Val 2097152 x):l_eqValS l l=some (true,()):=by
 have hl:=h.1
 rw [l_eqValS_eq,if_neg (by simp)]
 exact all_loop (fun i=>l_eqValS_L1 l l i) l _ (fun i hi=>by
  show l_eqValS_L1 l l i=_
  rw [l_eqValS_L1_eq,if_pos (decide_eq_true (by omega)),if_pos (by omega),if_pos (by omega),getD_nat hi,heq_Val _ (h.2 _ (List.getElem_mem hi)),Option.bind_some,if_neg (by simp),w64_succ hi (by omega)]) (by
  show l_eqValS_L1 l l _=_
  rw [l_eqValS_L1_eq,if_neg (by simp)])
theorem hmk_ValS (l:List impl_Val) (k:Int) (h:l.length≤2097152∧∀ x∈l,Gi_Val 2097152 x) (hk:0≤k) (hb:k+6291456≤2305843009213693952):∃ k' l',l_markValS l k=some (k',l',())∧l_heldValS l' k=some (k',())∧l'.length=l.length∧k≤k'∧k'≤k+6291456:=by
 have hl:=h.1
 rw [l_markValS_eq]
 have step:∀ (a:List impl_Val) (k:Int) (i:Nat) (hi:i < a.length),a.length≤4294967296→(Gi_Val 2097152) a[i]→0≤k→k+(3:Nat)≤2305843009213693952→∃ y k',l_markValS_L1 a k i=l_markValS_L1 (a.set i y) k' ((i+1:Nat):Int)∧k≤k'∧k'≤k+(3:Nat)∧∀ (d:List impl_Val) (hd:i < d.length),d.length≤4294967296→d[i]=y→l_heldValS_L1 d k i=l_heldValS_L1 d k' ((i+1:Nat):Int):=by
  intro a k i hi ha hp hk hb
  have c:(0:Int)≤(i:Int)∧(i:Int) < (a.length:Int):=by omega
  refine ⟨⟨k,k+1,mText (k+1+1)⟩,k+1+1+1,?_,by omega,by omega,fun d hd hdl hdy=>?_⟩
  ·show l_markValS_L1 a k i=l_markValS_L1 _ _ _
   rw [l_markValS_L1_eq,if_pos (decide_eq_true c.2),if_pos c,w64_id (n:=k+1) (by omega) (by omega),w64_id (n:=k+1+1) (by omega) (by omega),w64_id (n:=k+1+1+1) (by omega) (by omega),w64_succ hi (by omega),markText_eq _ (by omega)]
   simp only [List.length_set,if_pos c,Option.bind_some,Int.toNat_natCast,getD_set,hi,List.set_set]
  ·show l_heldValS_L1 d k i=l_heldValS_L1 _ _ _
   have c2:(0:Int)≤(i:Int)∧(i:Int) < (d.length:Int):=by omega
   rw [l_heldValS_L1_eq,if_pos (decide_eq_true c2.2),w64_id (n:=k+1) (by omega) (by omega),w64_id (n:=k+1+1) (by omega) (by omega),w64_id (n:=k+1+1+1) (by omega) (by omega),w64_succ hd (by omega),markText_eq _ (by omega),getD_nat hd,hdy]
   simp only [if_pos c2,Option.bind_some,decide_true,Bool.not_true,Bool.false_eq_true,if_false]
 obtain ⟨k',l',e1,e2,e3,e4,e5⟩:=mark_rows (fun a k i=>l_markValS_L1 a k i) (fun a k i=>l_heldValS_L1 a k i) (Gi_Val 2097152) 3 2305843009213693952
  (fun a k=>by show l_markValS_L1 a k _=_; rw [l_markValS_L1_eq,if_neg (by simp)])
  (fun a k=>by show l_heldValS_L1 a k _=_; rw [l_heldValS_L1_eq,if_neg (by simp)])
  step l k (by omega) (h.2) hk (by omega)
 exact ⟨k',l',e1,by rw [l_heldValS_eq]; exact e2,e3,e4,by omega⟩
theorem hsz_Cell (x:laws_Cell) (n:Int) (h:Gl_Cell 9223372036854775807 x) (h0:0≤n) (h1:n≤1048576):∃ r,l_szCell x n=some (r,())∧r≤1048576∧(0≤r→Gl_Cell 1048576 x):=by
 unfold Gl_Cell at h
 rw [l_szCell_eq]
 have hl0:=h.1
 rw [w64_id (n:=n - (x.Key.length:Int)) (by omega) (by omega)]
 by_cases c0:n - (x.Key.length:Int) < 0
 ·rw [if_pos (decide_eq_true c0)]; exact ⟨-1,rfl,by omega,fun h=>by omega⟩
 rw [if_neg (by rw [decide_eq_true_eq]; exact c0)]
 obtain ⟨r1,e1,f1,g1⟩:=hsz_Val x.Val (n - (x.Key.length:Int)) (h.2) (by omega) (by omega)
 rw [e1,Option.bind_some]
 dsimp only
 by_cases c1:r1 < 0
 ·rw [if_pos (decide_eq_true c1)]; exact ⟨-1,rfl,by omega,fun h=>by omega⟩
 rw [if_neg (by rw [decide_eq_true_eq]; exact c1)]
 exact ⟨_,rfl,by omega,fun _=>by unfold Gl_Cell; exact ⟨by omega,g1 (by omega)⟩⟩
def hc_Cell (x:laws_Cell):impl_Cell:=⟨x.Name,x.Key,(hc_Val x.Val)⟩
theorem hto_Cell (x:laws_Cell) (h:Gl_Cell 1048576 x):l_toCell x=some (hc_Cell x,()):=by
 unfold Gl_Cell at h
 rw [l_toCell_eq]
 rw [hto_Val _ (h.2),Option.bind_some]
 rfl
theorem hg_Cell {x:laws_Cell} {M:Nat} (h:Gl_Cell M x):Gi_Cell M (hc_Cell x):=by
 unfold Gl_Cell at h
 unfold Gi_Cell hc_Cell
 exact ⟨h.1,hg_Val (h.2)⟩
theorem heq_Cell (x:impl_Cell) (h:Gi_Cell 2097152 x):l_eqCell x x=some (true,()):=by
 unfold Gi_Cell at h
 rw [l_eqCell_eq]
 rw [heq_Val _ (h.2)]
 simp
theorem hsz_CellS (l:List laws_Cell) (n:Int) (h:l.length≤9223372036854775807∧∀ x∈l,Gl_Cell 9223372036854775807 x) (h0:0≤n) (h1:n≤1048576):∃ r,l_szCellS l n=some (r,())∧r≤1048576∧(0≤r→l.length≤1048576∧∀ x∈l,Gl_Cell 1048576 x):=by
 have hl:=h.1
 rw [l_szCellS_eq,w64_id (n:=n - (l.length:Int)) (by omega) (by omega)]
 by_cases c:n - (l.length:Int) < 0
 ·rw [if_pos (decide_eq_true c)]; exact ⟨-1,rfl,by omega,fun h=>by omega⟩
 ·rw [if_neg (by rw [decide_eq_true_eq]; exact c)]
  obtain ⟨r,e1,e2,e3⟩:=sz_rows (fun k i=>l_szCellS_L1 l k i) l_szCell l (Gl_Cell 1048576) (by omega) (fun x hx k k0 k1=>hsz_Cell x k (h.2 x hx) k0 k1)
   (fun k=>by show l_szCellS_L1 l k _=_; rw [l_szCellS_L1_eq,if_neg (by simp)])
   (fun k i hi=>by show l_szCellS_L1 l k i=_; rw [l_szCellS_L1_eq,if_pos (decide_eq_true (by omega)),if_pos (by omega),getD_nat hi,w64_succ hi (by omega)]) (n - l.length) (by omega) (by omega)
  exact ⟨r,e1,e2,fun hr=>⟨by omega,e3 hr⟩⟩
theorem hto_CellS (l:List laws_Cell) (h:l.length≤1048576∧∀ x∈l,Gl_Cell 1048576 x):l_toCellS l=some (l.map hc_Cell,()):=by
 rw [l_toCellS_eq,if_pos (by have:=h.1; rw [room_eq]; omega)]
 have:=to_loop (fun acc i=>l_toCellS_L1 l acc i) hc_Cell l (fun acc i hi ha=>by
  show l_toCellS_L1 l acc i=_
  have hl:=h.1
  rw [l_toCellS_L1_eq,if_pos (decide_eq_true (by omega)),if_pos (by omega),getD_nat hi,hto_Cell _ (h.2 _ (List.getElem_mem hi)),Option.bind_some,if_pos (by omega),w64_succ hi (by omega),Int.toNat_natCast]
  ) (fun acc ha=>by
  show l_toCellS_L1 l acc _=_
  rw [l_toCellS_L1_eq,if_neg (by simp)]) (List.replicate (List.length l:Int).toNat z_impl_Cell) (by simp)
 exact this
theorem heq_CellS (l:List impl_Cell) (h:l.length≤2097152∧∀ x∈l,Gi_Cell 2097152 x):l_eqCellS l l=some (true,()):=by
 have hl:=h.1
 rw [l_eqCellS_eq,if_neg (by simp)]
 exact all_loop (fun i=>l_eqCellS_L1 l l i) l _ (fun i hi=>by
  show l_eqCellS_L1 l l i=_
  rw [l_eqCellS_L1_eq,if_pos (decide_eq_true (by omega)),if_pos (by omega),if_pos (by omega),getD_nat hi,heq_Cell _ (h.2 _ (List.getElem_mem hi)),Option.bind_some,if_neg (by simp),w64_succ hi (by omega)]) (by
  show l_eqCellS_L1 l l _=_
  rw [l_eqCellS_L1_eq,if_neg (by simp)])
theorem hmk_CellS (l:List impl_Cell) (k:Int) (h:l.length≤2097152∧∀ x∈l,Gi_Cell 2097152 x) (hk:0≤k) (hb:k+10485760≤2305843009213693952):∃ k' l',l_markCellS l k=some (k',l',())∧l_heldCellS l' k=some (k',())∧l'.length=l.length∧k≤k'∧k'≤k+10485760:=by
 have hl:=h.1
 rw [l_markCellS_eq]
 have step:∀ (a:List impl_Cell) (k:Int) (i:Nat) (hi:i < a.length),a.length≤4294967296→(Gi_Cell 2097152) a[i]→0≤k→k+(5:Nat)≤2305843009213693952→∃ y k',l_markCellS_L1 a k i=l_markCellS_L1 (a.set i y) k' ((i+1:Nat):Int)∧k≤k'∧k'≤k+(5:Nat)∧∀ (d:List impl_Cell) (hd:i < d.length),d.length≤4294967296→d[i]=y→l_heldCellS_L1 d k i=l_heldCellS_L1 d k' ((i+1:Nat):Int):=by
  intro a k i hi ha hp hk hb
  have c:(0:Int)≤(i:Int)∧(i:Int) < (a.length:Int):=by omega
  refine ⟨⟨k,mText (k+1),⟨k+1+1,k+1+1+1,mText (k+1+1+1+1)⟩⟩,k+1+1+1+1+1,?_,by omega,by omega,fun d hd hdl hdy=>?_⟩
  ·show l_markCellS_L1 a k i=l_markCellS_L1 _ _ _
   rw [l_markCellS_L1_eq,if_pos (decide_eq_true c.2),if_pos c,w64_id (n:=k+1) (by omega) (by omega),w64_id (n:=k+1+1) (by omega) (by omega),w64_id (n:=k+1+1+1) (by omega) (by omega),w64_id (n:=k+1+1+1+1) (by omega) (by omega),w64_id (n:=k+1+1+1+1+1) (by omega) (by omega),w64_succ hi (by omega),markText_eq _ (by omega),markText_eq _ (by omega)]
   simp only [List.length_set,if_pos c,Option.bind_some,Int.toNat_natCast,getD_set,hi,List.set_set]
  ·show l_heldCellS_L1 d k i=l_heldCellS_L1 _ _ _
   have c2:(0:Int)≤(i:Int)∧(i:Int) < (d.length:Int):=by omega
   rw [l_heldCellS_L1_eq,if_pos (decide_eq_true c2.2),w64_id (n:=k+1) (by omega) (by omega),w64_id (n:=k+1+1) (by omega) (by omega),w64_id (n:=k+1+1+1) (by omega) (by omega),w64_id (n:=k+1+1+1+1) (by omega) (by omega),w64_id (n:=k+1+1+1+1+1) (by omega) (by omega),w64_succ hd (by omega),markText_eq _ (by omega),markText_eq _ (by omega),getD_nat hd,hdy]
   simp only [if_pos c2,Option.bind_some,decide_true,Bool.not_true,Bool.false_eq_true,if_false]
 obtain ⟨k',l',e1,e2,e3,e4,e5⟩:=mark_rows (fun a k i=>l_markCellS_L1 a k i) (fun a k i=>l_heldCellS_L1 a k i) (Gi_Cell 2097152) 5 2305843009213693952
  (fun a k=>by show l_markCellS_L1 a k _=_; rw [l_markCellS_L1_eq,if_neg (by simp)])
  (fun a k=>by show l_heldCellS_L1 a k _=_; rw [l_heldCellS_L1_eq,if_neg (by simp)])
  step l k (by omega) (h.2) hk (by omega)
 exact ⟨k',l',e1,by rw [l_heldCellS_eq]; exact e2,e3,e4,by omega⟩
theorem hsz_State (x:laws_State) (n:Int) (h:Gl_State 9223372036854775807 x) (h0:0≤n) (h1:n≤1048576):∃ r,l_szState x n=some (r,())∧r≤1048576∧(0≤r→Gl_State 1048576 x):=by
 unfold Gl_State at h
 rw [l_szState_eq]
 obtain ⟨r0,e0,f0,g0⟩:=hsz_ValS x.Vars n (h.1) (by omega) (by omega)
 rw [e0,Option.bind_some]
 dsimp only
 by_cases c0:r0 < 0
 ·rw [if_pos (decide_eq_true c0)]; exact ⟨-1,rfl,by omega,fun h=>by omega⟩
 rw [if_neg (by rw [decide_eq_true_eq]; exact c0)]
 obtain ⟨r1,e1,f1,g1⟩:=hsz_CellS x.Cells r0 (h.2) (by omega) (by omega)
 rw [e1,Option.bind_some]
 dsimp only
 by_cases c1:r1 < 0
 ·rw [if_pos (decide_eq_true c1)]; exact ⟨-1,rfl,by omega,fun h=>by omega⟩
 rw [if_neg (by rw [decide_eq_true_eq]; exact c1)]
 exact ⟨_,rfl,by omega,fun _=>by unfold Gl_State; exact ⟨g0 (by omega),g1 (by omega)⟩⟩
def hc_State (x:laws_State):impl_State:=⟨(x.Vars.map hc_Val),(x.Cells.map hc_Cell),x.Nr,x.Err⟩
theorem hto_State (x:laws_State) (h:Gl_State 1048576 x):l_toState x=some (hc_State x,()):=by
 unfold Gl_State at h
 rw [l_toState_eq]
 rw [hto_ValS _ (h.1),Option.bind_some]
 rw [hto_CellS _ (h.2),Option.bind_some]
 rfl
theorem hg_State {x:laws_State} {M:Nat} (h:Gl_State M x):Gi_State M (hc_State x):=by
 unfold Gl_State at h
 unfold Gi_State hc_State
 exact ⟨⟨by rw [List.length_map]; exact (h.1).1,fun y hy=>by obtain ⟨x',hx',rfl⟩:=List.mem_map.1 hy; exact hg_Val ((h.1).2 x' hx')⟩,⟨by rw [List.length_map]; exact (h.2).1,fun y hy=>by obtain ⟨x',hx',rfl⟩:=List.mem_map.1 hy; exact hg_Cell ((h.2).2 x' hx')⟩⟩
theorem heq_State (x:impl_State) (h:Gi_State 2097152 x):l_eqState x x=some (true,()):=by
 unfold Gi_State at h
 rw [l_eqState_eq]
 rw [heq_ValS _ (h.1),heq_CellS _ (h.2)]
 simp
theorem hmk_State (x:impl_State) (k:Int) (h:Gi_State 2097152 x) (hk:0≤k) (hb:k+16777216≤2305843009213693952):∃ k' x',l_markState x k=some (k',x',())∧l_heldState x' k=some (k',())∧k≤k'∧k'≤k+16777216:=by
 unfold Gi_State at h
 obtain ⟨k0,x0,a0,b0,_,c0,d0⟩:=hmk_ValS x.Vars k (h.1) (by omega) (by omega)
 obtain ⟨k1,x1,a1,b1,_,c1,d1⟩:=hmk_CellS x.Cells k0 (h.2) (by omega) (by omega)
 refine ⟨k1,⟨x0,x1,x.Nr,x.Err⟩,?_,?_,by omega,by omega⟩
 ·rw [l_markState_eq,a0,Option.bind_some,a1,Option.bind_some]
 ·rw [l_heldState_eq,b0,Option.bind_some,if_neg (by rw [decide_eq_true_eq]; omega),b1,Option.bind_some,if_neg (by rw [decide_eq_true_eq]; omega)]
theorem hsz_IntS (l:List Int) (n:Int) (h:l.length≤9223372036854775807) (h0:0≤n) (h1:n≤1048576):∃ r,l_szIntS l n=some (r,())∧r≤1048576∧(0≤r→l.length≤1048576):=by
 have hl:=h
 rw [l_szIntS_eq,w64_id (n:=n - (l.length:Int)) (by omega) (by omega)]
 by_cases c:n - (l.length:Int) < 0
 ·rw [if_pos (decide_eq_true c)]; exact ⟨-1,rfl,by omega,fun h=>by omega⟩
 ·rw [if_neg (by rw [decide_eq_true_eq]; exact c)]
  exact ⟨_,rfl,by omega,fun _=>by omega⟩
theorem hto_IntS (l:List Int) (h:l.length≤1048576):l_toIntS l=some (l,()):=by
 rw [l_toIntS_eq,if_pos (by have:=h; rw [room_eq]; omega)]
 have:=to_loop (fun acc i=>l_toIntS_L1 l acc i) id l (fun acc i hi ha=>by
  show l_toIntS_L1 l acc i=_
  have hl:=h
  rw [l_toIntS_L1_eq,if_pos (decide_eq_true (by omega)),if_pos (by omega),if_pos (by omega),w64_succ hi (by omega),getD_nat hi,Int.toNat_natCast]
  rfl
  ) (fun acc ha=>by
  show l_toIntS_L1 l acc _=_
  rw [l_toIntS_L1_eq,if_neg (by simp)]) (List.replicate (List.length l:Int).toNat 0) (by simp)
 rw [List.map_id] at this
 exact this
theorem heq_IntS (l:List Int) (h:l.length≤2097152):l_eqIntS l l=some (true,()):=by
 have hl:=h
 rw [l_eqIntS_eq,if_neg (by simp)]
 exact all_loop (fun i=>l_eqIntS_L1 l l i) l _ (fun i hi=>by
  show l_eqIntS_L1 l l i=_
  rw [l_eqIntS_L1_eq,if_pos (decide_eq_true (by omega)),if_pos (by omega),if_pos (by omega),if_neg (by simp),w64_succ hi (by omega)]) (by
  show l_eqIntS_L1 l l _=_
  rw [l_eqIntS_L1_eq,if_neg (by simp)])
theorem hmk_IntS (l:List Int) (k:Int) (h:l.length≤2097152) (hk:0≤k) (hb:k+2097152≤2305843009213693952):∃ k' l',l_markIntS l k=some (k',l',())∧l_heldIntS l' k=some (k',())∧l'.length=l.length∧k≤k'∧k'≤k+2097152:=by
 have hl:=h
 rw [l_markIntS_eq]
 have step:∀ (a:List Int) (k:Int) (i:Nat) (hi:i < a.length),a.length≤4294967296→(fun _=>True) a[i]→0≤k→k+(1:Nat)≤2305843009213693952→∃ y k',l_markIntS_L1 a k i=l_markIntS_L1 (a.set i y) k' ((i+1:Nat):Int)∧k≤k'∧k'≤k+(1:Nat)∧∀ (d:List Int) (hd:i < d.length),d.length≤4294967296→d[i]=y→l_heldIntS_L1 d k i=l_heldIntS_L1 d k' ((i+1:Nat):Int):=by
  intro a k i hi ha hp hk hb
  have c:(0:Int)≤(i:Int)∧(i:Int) < (a.length:Int):=by omega
  refine ⟨k,k+1,?_,by omega,by omega,fun d hd hdl hdy=>?_⟩
  ·show l_markIntS_L1 a k i=l_markIntS_L1 _ _ _
   rw [l_markIntS_L1_eq,if_pos (decide_eq_true c.2),if_pos c,w64_id (n:=k+1) (by omega) (by omega),w64_succ hi (by omega),Int.toNat_natCast]
  ·show l_heldIntS_L1 d k i=l_heldIntS_L1 _ _ _
   have c2:(0:Int)≤(i:Int)∧(i:Int) < (d.length:Int):=by omega
   rw [l_heldIntS_L1_eq,if_pos (decide_eq_true c2.2),if_pos c2,getD_nat hd,hdy,if_neg (by simp),w64_id (n:=k+1) (by omega) (by omega),w64_succ hd (by omega)]
 obtain ⟨k',l',e1,e2,e3,e4,e5⟩:=mark_rows (fun a k i=>l_markIntS_L1 a k i) (fun a k i=>l_heldIntS_L1 a k i) (fun _=>True) 1 2305843009213693952
  (fun a k=>by show l_markIntS_L1 a k _=_; rw [l_markIntS_L1_eq,if_neg (by simp)])
  (fun a k=>by show l_heldIntS_L1 a k _=_; rw [l_heldIntS_L1_eq,if_neg (by simp)])
  step l k (by omega) (fun _ _=>trivial) hk (by omega)
 exact ⟨k',l',e1,by rw [l_heldIntS_eq]; exact e2,e3,e4,by omega⟩
theorem hsz_Mach (x:laws_Mach) (n:Int) (h:Gl_Mach 9223372036854775807 x) (h0:0≤n) (h1:n≤1048576):∃ r,l_szMach x n=some (r,())∧r≤1048576∧(0≤r→Gl_Mach 1048576 x):=by
 unfold Gl_Mach at h
 rw [l_szMach_eq]
 obtain ⟨r0,e0,f0,g0⟩:=hsz_State x.State n (h.1) (by omega) (by omega)
 rw [e0,Option.bind_some]
 dsimp only
 by_cases c0:r0 < 0
 ·rw [if_pos (decide_eq_true c0)]; exact ⟨-1,rfl,by omega,fun h=>by omega⟩
 rw [if_neg (by rw [decide_eq_true_eq]; exact c0)]
 obtain ⟨r1,e1,f1,g1⟩:=hsz_IntS x.Done r0 (h.2.1) (by omega) (by omega)
 rw [e1,Option.bind_some]
 dsimp only
 by_cases c1:r1 < 0
 ·rw [if_pos (decide_eq_true c1)]; exact ⟨-1,rfl,by omega,fun h=>by omega⟩
 rw [if_neg (by rw [decide_eq_true_eq]; exact c1)]
 have hl2:=h.2.2
 rw [w64_id (n:=r1 - (x.Out.length:Int)) (by omega) (by omega)]
 by_cases c2:r1 - (x.Out.length:Int) < 0
 ·rw [if_pos (decide_eq_true c2)]; exact ⟨-1,rfl,by omega,fun h=>by omega⟩
 rw [if_neg (by rw [decide_eq_true_eq]; exact c2)]
 exact ⟨_,rfl,by omega,fun _=>by unfold Gl_Mach; exact ⟨g0 (by omega),g1 (by omega),by omega⟩⟩
def hc_Mach (x:laws_Mach):impl_Mach:=⟨(hc_State x.State),x.Done,x.Out⟩
theorem hto_Mach (x:laws_Mach) (h:Gl_Mach 1048576 x):l_toMach x=some (hc_Mach x,()):=by
 unfold Gl_Mach at h
 rw [l_toMach_eq]
 rw [hto_State _ (h.1),Option.bind_some]
 rw [hto_IntS _ (h.2.1),Option.bind_some]
 rfl
theorem hg_Mach {x:laws_Mach} {M:Nat} (h:Gl_Mach M x):Gi_Mach M (hc_Mach x):=by
 unfold Gl_Mach at h
 unfold Gi_Mach hc_Mach
 exact ⟨hg_State (h.1),h.2.1,h.2.2⟩
theorem heq_Mach (x:impl_Mach) (h:Gi_Mach 2097152 x):l_eqMach x x=some (true,()):=by
 unfold Gi_Mach at h
 rw [l_eqMach_eq]
 rw [heq_State _ (h.1),heq_IntS _ (h.2.1)]
 simp
theorem hmk_Mach (x:impl_Mach) (k:Int) (h:Gi_Mach 2097152 x) (hk:0≤k) (hb:k+18874368≤2305843009213693952):∃ k' x',l_markMach x k=some (k',x',())∧l_heldMach x' k=some (k',())∧k≤k'∧k'≤k+18874368:=by
 unfold Gi_Mach at h
 obtain ⟨k0,x0,a0,b0,c0,d0⟩:=hmk_State x.State k (h.1) (by omega) (by omega)
 obtain ⟨k1,x1,a1,b1,_,c1,d1⟩:=hmk_IntS x.Done k0 (h.2.1) (by omega) (by omega)
 refine ⟨k1,⟨x0,x1,x.Out⟩,?_,?_,by omega,by omega⟩
 ·rw [l_markMach_eq,a0,Option.bind_some,a1,Option.bind_some]
 ·rw [l_heldMach_eq,b0,Option.bind_some,if_neg (by rw [decide_eq_true_eq]; omega),b1,Option.bind_some,if_neg (by rw [decide_eq_true_eq]; omega)]
theorem hsz_Hard (x:laws_Hard) (n:Int) (h:Gl_Hard 9223372036854775807 x) (h0:0≤n) (h1:n≤1048576):∃ r,l_szHard x n=some (r,())∧r≤1048576∧(0≤r→Gl_Hard 1048576 x):=by
 unfold Gl_Hard at h
 rw [l_szHard_eq]
 obtain ⟨r0,e0,f0,g0⟩:=hsz_Log x.Log n (h.1) (by omega) (by omega)
 rw [e0,Option.bind_some]
 dsimp only
 by_cases c0:r0 < 0
 ·rw [if_pos (decide_eq_true c0)]; exact ⟨-1,rfl,by omega,fun h=>by omega⟩
 rw [if_neg (by rw [decide_eq_true_eq]; exact c0)]
 obtain ⟨r1,e1,f1,g1⟩:=hsz_Mach x.Snap r0 (h.2) (by omega) (by omega)
 rw [e1,Option.bind_some]
 dsimp only
 by_cases c1:r1 < 0
 ·rw [if_pos (decide_eq_true c1)]; exact ⟨-1,rfl,by omega,fun h=>by omega⟩
 rw [if_neg (by rw [decide_eq_true_eq]; exact c1)]
 exact ⟨_,rfl,by omega,fun _=>by unfold Gl_Hard; exact ⟨g0 (by omega),g1 (by omega)⟩⟩
def hc_Hard (x:laws_Hard):impl_Hard:=⟨x.Term,x.Vote,(hc_Log x.Log),(hc_Mach x.Snap)⟩
theorem hto_Hard (x:laws_Hard) (h:Gl_Hard 1048576 x):l_toHard x=some (hc_Hard x,()):=by
 unfold Gl_Hard at h
 rw [l_toHard_eq]
 rw [hto_Log _ (h.1),Option.bind_some]
 rw [hto_Mach _ (h.2),Option.bind_some]
 rfl
theorem hg_Hard {x:laws_Hard} {M:Nat} (h:Gl_Hard M x):Gi_Hard M (hc_Hard x):=by
 unfold Gl_Hard at h
 unfold Gi_Hard hc_Hard
 exact ⟨hg_Log (h.1),hg_Mach (h.2)⟩
theorem heq_Hard (x:impl_Hard) (h:Gi_Hard 2097152 x):l_eqHard x x=some (true,()):=by
 unfold Gi_Hard at h
 rw [l_eqHard_eq]
 rw [heq_Log _ (h.1),heq_Mach _ (h.2)]
 simp
theorem hmk_Hard (x:impl_Hard) (k:Int) (h:Gi_Hard 2097152 x) (hk:0≤k) (hb:k+27262976≤2305843009213693952):∃ k' x',l_markHard x k=some (k',x',())∧l_heldHard x' k=some (k',())∧k≤k'∧k'≤k+27262976:=by
 unfold Gi_Hard at h
 obtain ⟨k0,x0,a0,b0,c0,d0⟩:=hmk_Log x.Log k (h.1) (by omega) (by omega)
 obtain ⟨k1,x1,a1,b1,c1,d1⟩:=hmk_Mach x.Snap k0 (h.2) (by omega) (by omega)
 refine ⟨k1,⟨x.Term,x.Vote,x0,x1⟩,?_,?_,by omega,by omega⟩
 ·rw [l_markHard_eq,a0,Option.bind_some,a1,Option.bind_some]
 ·rw [l_heldHard_eq,b0,Option.bind_some,if_neg (by rw [decide_eq_true_eq]; omega),b1,Option.bind_some,if_neg (by rw [decide_eq_true_eq]; omega)]
theorem hsz_BoolS (l:List Bool) (n:Int) (h:l.length≤9223372036854775807) (h0:0≤n) (h1:n≤1048576):∃ r,l_szBoolS l n=some (r,())∧r≤1048576∧(0≤r→l.length≤1048576):=by
 have hl:=h
 rw [l_szBoolS_eq,w64_id (n:=n - (l.length:Int)) (by omega) (by omega)]
 by_cases c:n - (l.length:Int) < 0
 ·rw [if_pos (decide_eq_true c)]; exact ⟨-1,rfl,by omega,fun h=>by omega⟩
 ·rw [if_neg (by rw [decide_eq_true_eq]; exact c)]
  exact ⟨_,rfl,by omega,fun _=>by omega⟩
theorem hto_BoolS (l:List Bool) (h:l.length≤1048576):l_toBoolS l=some (l,()):=by
 rw [l_toBoolS_eq,if_pos (by have:=h; rw [room_eq]; omega)]
 have:=to_loop (fun acc i=>l_toBoolS_L1 l acc i) id l (fun acc i hi ha=>by
  show l_toBoolS_L1 l acc i=_
  have hl:=h
  rw [l_toBoolS_L1_eq,if_pos (decide_eq_true (by omega)),if_pos (by omega),if_pos (by omega),w64_succ hi (by omega),getD_nat hi,Int.toNat_natCast]
  rfl
  ) (fun acc ha=>by
  show l_toBoolS_L1 l acc _=_
  rw [l_toBoolS_L1_eq,if_neg (by simp)]) (List.replicate (List.length l:Int).toNat false) (by simp)
 rw [List.map_id] at this
 exact this
theorem heq_BoolS (l:List Bool) (h:l.length≤2097152):l_eqBoolS l l=some (true,()):=by
 have hl:=h
 rw [l_eqBoolS_eq,if_neg (by simp)]
 exact all_loop (fun i=>l_eqBoolS_L1 l l i) l _ (fun i hi=>by
  show l_eqBoolS_L1 l l i=_
  rw [l_eqBoolS_L1_eq,if_pos (decide_eq_true (by omega)),if_pos (by omega),if_pos (by omega),if_neg (by simp),w64_succ hi (by omega)]) (by
  show l_eqBoolS_L1 l l _=_
  rw [l_eqBoolS_L1_eq,if_neg (by simp)])
theorem hmk_BoolS (l:List Bool) (k:Int) (h:l.length≤2097152) (hk:0≤k) (hb:k+2097152≤2305843009213693952):∃ k' l',l_markBoolS l k=some (k',l',())∧l_heldBoolS l' k=some (k',())∧l'.length=l.length∧k≤k'∧k'≤k+2097152:=by
 have hl:=h
 rw [l_markBoolS_eq]
 have step:∀ (a:List Bool) (k:Int) (i:Nat) (hi:i < a.length),a.length≤4294967296→(fun _=>True) a[i]→0≤k→k+(1:Nat)≤2305843009213693952→∃ y k',l_markBoolS_L1 a k i=l_markBoolS_L1 (a.set i y) k' ((i+1:Nat):Int)∧k≤k'∧k'≤k+(1:Nat)∧∀ (d:List Bool) (hd:i < d.length),d.length≤4294967296→d[i]=y→l_heldBoolS_L1 d k i=l_heldBoolS_L1 d k' ((i+1:Nat):Int):=by
  intro a k i hi ha hp hk hb
  have c:(0:Int)≤(i:Int)∧(i:Int) < (a.length:Int):=by omega
  refine ⟨(decide ((Int.tmod k 3)=0)),k+1,?_,by omega,by omega,fun d hd hdl hdy=>?_⟩
  ·show l_markBoolS_L1 a k i=l_markBoolS_L1 _ _ _
   rw [l_markBoolS_L1_eq,if_pos (decide_eq_true c.2),if_pos c,w64_id (n:=k+1) (by omega) (by omega),w64_succ hi (by omega),Int.toNat_natCast]
  ·show l_heldBoolS_L1 d k i=l_heldBoolS_L1 _ _ _
   have c2:(0:Int)≤(i:Int)∧(i:Int) < (d.length:Int):=by omega
   rw [l_heldBoolS_L1_eq,if_pos (decide_eq_true c2.2),if_pos c2,getD_nat hd,hdy,if_neg (by simp),w64_id (n:=k+1) (by omega) (by omega),w64_succ hd (by omega)]
 obtain ⟨k',l',e1,e2,e3,e4,e5⟩:=mark_rows (fun a k i=>l_markBoolS_L1 a k i) (fun a k i=>l_heldBoolS_L1 a k i) (fun _=>True) 1 2305843009213693952
  (fun a k=>by show l_markBoolS_L1 a k _=_; rw [l_markBoolS_L1_eq,if_neg (by simp)])
  (fun a k=>by show l_heldBoolS_L1 a k _=_; rw [l_heldBoolS_L1_eq,if_neg (by simp)])
  step l k (by omega) (fun _ _=>trivial) hk (by omega)
 exact ⟨k',l',e1,by rw [l_heldBoolS_eq]; exact e2,e3,e4,by omega⟩
theorem hsz_ByteS (l:List Int) (n:Int) (h:l.length≤9223372036854775807) (h0:0≤n) (h1:n≤1048576):∃ r,l_szByteS l n=some (r,())∧r≤1048576∧(0≤r→l.length≤1048576):=by
 have hl:=h
 rw [l_szByteS_eq,w64_id (n:=n - (l.length:Int)) (by omega) (by omega)]
 by_cases c:n - (l.length:Int) < 0
 ·rw [if_pos (decide_eq_true c)]; exact ⟨-1,rfl,by omega,fun h=>by omega⟩
 ·rw [if_neg (by rw [decide_eq_true_eq]; exact c)]
  exact ⟨_,rfl,by omega,fun _=>by omega⟩
theorem hto_ByteS (l:List Int) (h:l.length≤1048576):l_toByteS l=some (l,()):=by
 rw [l_toByteS_eq,if_pos (by have:=h; rw [room_eq]; omega)]
 have:=to_loop (fun acc i=>l_toByteS_L1 l acc i) id l (fun acc i hi ha=>by
  show l_toByteS_L1 l acc i=_
  have hl:=h
  rw [l_toByteS_L1_eq,if_pos (decide_eq_true (by omega)),if_pos (by omega),if_pos (by omega),w64_succ hi (by omega),getD_nat hi,Int.toNat_natCast]
  rfl
  ) (fun acc ha=>by
  show l_toByteS_L1 l acc _=_
  rw [l_toByteS_L1_eq,if_neg (by simp)]) (List.replicate (List.length l:Int).toNat 0) (by simp)
 rw [List.map_id] at this
 exact this
theorem heq_ByteS (l:List Int) (h:l.length≤2097152):l_eqByteS l l=some (true,()):=by
 have hl:=h
 rw [l_eqByteS_eq,if_neg (by simp)]
 exact all_loop (fun i=>l_eqByteS_L1 l l i) l _ (fun i hi=>by
  show l_eqByteS_L1 l l i=_
  rw [l_eqByteS_L1_eq,if_pos (decide_eq_true (by omega)),if_pos (by omega),if_pos (by omega),if_neg (by simp),w64_succ hi (by omega)]) (by
  show l_eqByteS_L1 l l _=_
  rw [l_eqByteS_L1_eq,if_neg (by simp)])
theorem hmk_ByteS (l:List Int) (k:Int) (h:l.length≤2097152) (hk:0≤k) (hb:k+2097152≤2305843009213693952):∃ k' l',l_markByteS l k=some (k',l',())∧l_heldByteS l' k=some (k',())∧l'.length=l.length∧k≤k'∧k'≤k+2097152:=by
 have hl:=h
 rw [l_markByteS_eq]
 have step:∀ (a:List Int) (k:Int) (i:Nat) (hi:i < a.length),a.length≤4294967296→(fun _=>True) a[i]→0≤k→k+(1:Nat)≤2305843009213693952→∃ y k',l_markByteS_L1 a k i=l_markByteS_L1 (a.set i y) k' ((i+1:Nat):Int)∧k≤k'∧k'≤k+(1:Nat)∧∀ (d:List Int) (hd:i < d.length),d.length≤4294967296→d[i]=y→l_heldByteS_L1 d k i=l_heldByteS_L1 d k' ((i+1:Nat):Int):=by
  intro a k i hi ha hp hk hb
  have c:(0:Int)≤(i:Int)∧(i:Int) < (a.length:Int):=by omega
  refine ⟨(w8 k),k+1,?_,by omega,by omega,fun d hd hdl hdy=>?_⟩
  ·show l_markByteS_L1 a k i=l_markByteS_L1 _ _ _
   rw [l_markByteS_L1_eq,if_pos (decide_eq_true c.2),if_pos c,w64_id (n:=k+1) (by omega) (by omega),w64_succ hi (by omega),Int.toNat_natCast]
  ·show l_heldByteS_L1 d k i=l_heldByteS_L1 _ _ _
   have c2:(0:Int)≤(i:Int)∧(i:Int) < (d.length:Int):=by omega
   rw [l_heldByteS_L1_eq,if_pos (decide_eq_true c2.2),if_pos c2,getD_nat hd,hdy,if_neg (by simp),w64_id (n:=k+1) (by omega) (by omega),w64_succ hd (by omega)]
 obtain ⟨k',l',e1,e2,e3,e4,e5⟩:=mark_rows (fun a k i=>l_markByteS_L1 a k i) (fun a k i=>l_heldByteS_L1 a k i) (fun _=>True) 1 2305843009213693952
  (fun a k=>by show l_markByteS_L1 a k _=_; rw [l_markByteS_L1_eq,if_neg (by simp)])
  (fun a k=>by show l_heldByteS_L1 a k _=_; rw [l_heldByteS_L1_eq,if_neg (by simp)])
  step l k (by omega) (fun _ _=>trivial) hk (by omega)
 exact ⟨k',l',e1,by rw [l_heldByteS_eq]; exact e2,e3,e4,by omega⟩
theorem hsz_Disk (x:laws_Disk) (n:Int) (h:Gl_Disk 9223372036854775807 x) (h0:0≤n) (h1:n≤1048576):∃ r,l_szDisk x n=some (r,())∧r≤1048576∧(0≤r→Gl_Disk 1048576 x):=by
 unfold Gl_Disk at h
 rw [l_szDisk_eq]
 obtain ⟨r0,e0,f0,g0⟩:=hsz_ByteS x.Bytes n (h) (by omega) (by omega)
 rw [e0,Option.bind_some]
 dsimp only
 by_cases c0:r0 < 0
 ·rw [if_pos (decide_eq_true c0)]; exact ⟨-1,rfl,by omega,fun h=>by omega⟩
 rw [if_neg (by rw [decide_eq_true_eq]; exact c0)]
 exact ⟨_,rfl,by omega,fun _=>by unfold Gl_Disk; exact g0 (by omega)⟩
def hc_Disk (x:laws_Disk):impl_Disk:=⟨x.Bytes,x.Sure⟩
theorem hto_Disk (x:laws_Disk) (h:Gl_Disk 1048576 x):l_toDisk x=some (hc_Disk x,()):=by
 unfold Gl_Disk at h
 rw [l_toDisk_eq]
 rw [hto_ByteS _ (h),Option.bind_some]
 rfl
theorem hg_Disk {x:laws_Disk} {M:Nat} (h:Gl_Disk M x):Gi_Disk M (hc_Disk x):=by
 unfold Gl_Disk at h
 unfold Gi_Disk hc_Disk
 exact h
theorem heq_Disk (x:impl_Disk) (h:Gi_Disk 2097152 x):l_eqDisk x x=some (true,()):=by
 unfold Gi_Disk at h
 rw [l_eqDisk_eq]
 rw [heq_ByteS _ (h)]
 simp
theorem hmk_Disk (x:impl_Disk) (k:Int) (h:Gi_Disk 2097152 x) (hk:0≤k) (hb:k+2097152≤2305843009213693952):∃ k' x',l_markDisk x k=some (k',x',())∧l_heldDisk x' k=some (k',())∧k≤k'∧k'≤k+2097152:=by
 unfold Gi_Disk at h
 obtain ⟨k0,x0,a0,b0,_,c0,d0⟩:=hmk_ByteS x.Bytes k (h) (by omega) (by omega)
 refine ⟨k0,⟨x0,x.Sure⟩,?_,?_,by omega,by omega⟩
 ·rw [l_markDisk_eq,a0,Option.bind_some]
 ·rw [l_heldDisk_eq,b0,Option.bind_some,if_neg (by rw [decide_eq_true_eq]; omega)]
theorem hsz_Rpc (x:laws_Rpc) (n:Int) (h:Gl_Rpc 9223372036854775807 x) (h0:0≤n) (h1:n≤1048576):∃ r,l_szRpc x n=some (r,())∧r≤1048576∧(0≤r→Gl_Rpc 1048576 x):=by
 unfold Gl_Rpc at h
 rw [l_szRpc_eq]
 obtain ⟨r0,e0,f0,g0⟩:=hsz_EntryS x.List n (h.1) (by omega) (by omega)
 rw [e0,Option.bind_some]
 dsimp only
 by_cases c0:r0 < 0
 ·rw [if_pos (decide_eq_true c0)]; exact ⟨-1,rfl,by omega,fun h=>by omega⟩
 rw [if_neg (by rw [decide_eq_true_eq]; exact c0)]
 have hl1:=h.2
 rw [w64_id (n:=r0 - (x.Snap.length:Int)) (by omega) (by omega)]
 by_cases c1:r0 - (x.Snap.length:Int) < 0
 ·rw [if_pos (decide_eq_true c1)]; exact ⟨-1,rfl,by omega,fun h=>by omega⟩
 rw [if_neg (by rw [decide_eq_true_eq]; exact c1)]
 exact ⟨_,rfl,by omega,fun _=>by unfold Gl_Rpc; exact ⟨g0 (by omega),by omega⟩⟩
def hc_Rpc (x:laws_Rpc):impl_Rpc:=⟨x.Kind,x.From,x.To,x.Term,x.Index,x.IndexTerm,x.Commit,(x.List.map hc_Entry),x.Ok,x.Snap⟩
theorem hto_Rpc (x:laws_Rpc) (h:Gl_Rpc 1048576 x):l_toRpc x=some (hc_Rpc x,()):=by
 unfold Gl_Rpc at h
 rw [l_toRpc_eq]
 rw [hto_EntryS _ (h.1),Option.bind_some]
 rfl
theorem hg_Rpc {x:laws_Rpc} {M:Nat} (h:Gl_Rpc M x):Gi_Rpc M (hc_Rpc x):=by
 unfold Gl_Rpc at h
 unfold Gi_Rpc hc_Rpc
 exact ⟨⟨by rw [List.length_map]; exact (h.1).1,fun y hy=>by obtain ⟨x',hx',rfl⟩:=List.mem_map.1 hy; exact hg_Entry ((h.1).2 x' hx')⟩,h.2⟩
theorem heq_Rpc (x:impl_Rpc) (h:Gi_Rpc 2097152 x):l_eqRpc x x=some (true,()):=by
 unfold Gi_Rpc at h
 rw [l_eqRpc_eq]
 rw [heq_EntryS _ (h.1)]
 simp
theorem hsz_RpcS (l:List laws_Rpc) (n:Int) (h:l.length≤9223372036854775807∧∀ x∈l,Gl_Rpc 9223372036854775807 x) (h0:0≤n) (h1:n≤1048576):∃ r,l_szRpcS l n=some (r,())∧r≤1048576∧(0≤r→l.length≤1048576∧∀ x∈l,Gl_Rpc 1048576 x):=by
 have hl:=h.1
 rw [l_szRpcS_eq,w64_id (n:=n - (l.length:Int)) (by omega) (by omega)]
 by_cases c:n - (l.length:Int) < 0
 ·rw [if_pos (decide_eq_true c)]; exact ⟨-1,rfl,by omega,fun h=>by omega⟩
 ·rw [if_neg (by rw [decide_eq_true_eq]; exact c)]
  obtain ⟨r,e1,e2,e3⟩:=sz_rows (fun k i=>l_szRpcS_L1 l k i) l_szRpc l (Gl_Rpc 1048576) (by omega) (fun x hx k k0 k1=>hsz_Rpc x k (h.2 x hx) k0 k1)
   (fun k=>by show l_szRpcS_L1 l k _=_; rw [l_szRpcS_L1_eq,if_neg (by simp)])
   (fun k i hi=>by show l_szRpcS_L1 l k i=_; rw [l_szRpcS_L1_eq,if_pos (decide_eq_true (by omega)),if_pos (by omega),getD_nat hi,w64_succ hi (by omega)]) (n - l.length) (by omega) (by omega)
  exact ⟨r,e1,e2,fun hr=>⟨by omega,e3 hr⟩⟩
theorem hto_RpcS (l:List laws_Rpc) (h:l.length≤1048576∧∀ x∈l,Gl_Rpc 1048576 x):l_toRpcS l=some (l.map hc_Rpc,()):=by
 rw [l_toRpcS_eq,if_pos (by have:=h.1; rw [room_eq]; omega)]
 have:=to_loop (fun acc i=>l_toRpcS_L1 l acc i) hc_Rpc l (fun acc i hi ha=>by
  show l_toRpcS_L1 l acc i=_
  have hl:=h.1
  rw [l_toRpcS_L1_eq,if_pos (decide_eq_true (by omega)),if_pos (by omega),getD_nat hi,hto_Rpc _ (h.2 _ (List.getElem_mem hi)),Option.bind_some,if_pos (by omega),w64_succ hi (by omega),Int.toNat_natCast]
  ) (fun acc ha=>by
  show l_toRpcS_L1 l acc _=_
  rw [l_toRpcS_L1_eq,if_neg (by simp)]) (List.replicate (List.length l:Int).toNat z_impl_Rpc) (by simp)
 exact this
theorem heq_RpcS (l:List impl_Rpc) (h:l.length≤2097152∧∀ x∈l,Gi_Rpc 2097152 x):l_eqRpcS l l=some (true,()):=by
 have hl:=h.1
 rw [l_eqRpcS_eq,if_neg (by simp)]
 exact all_loop (fun i=>l_eqRpcS_L1 l l i) l _ (fun i hi=>by
  show l_eqRpcS_L1 l l i=_
  rw [l_eqRpcS_L1_eq,if_pos (decide_eq_true (by omega)),if_pos (by omega),if_pos (by omega),getD_nat hi,heq_Rpc _ (h.2 _ (List.getElem_mem hi)),Option.bind_some,if_neg (by simp),w64_succ hi (by omega)]) (by
  show l_eqRpcS_L1 l l _=_
  rw [l_eqRpcS_L1_eq,if_neg (by simp)])
theorem hmk_RpcS (l:List impl_Rpc) (k:Int) (h:l.length≤2097152∧∀ x∈l,Gi_Rpc 2097152 x) (hk:0≤k) (hb:k+17592204918784≤2305843009213693952):∃ k' l',l_markRpcS l k=some (k',l',())∧l_heldRpcS l' k=some (k',())∧l'.length=l.length∧k≤k'∧k'≤k+17592204918784:=by
 have hl:=h.1
 rw [l_markRpcS_eq]
 have step:∀ (a:List impl_Rpc) (k:Int) (i:Nat) (hi:i < a.length),a.length≤4294967296→(Gi_Rpc 2097152) a[i]→0≤k→k+(8388617:Nat)≤2305843009213693952→∃ y k',l_markRpcS_L1 a k i=l_markRpcS_L1 (a.set i y) k' ((i+1:Nat):Int)∧k≤k'∧k'≤k+(8388617:Nat)∧∀ (d:List impl_Rpc) (hd:i < d.length),d.length≤4294967296→d[i]=y→l_heldRpcS_L1 d k i=l_heldRpcS_L1 d k' ((i+1:Nat):Int):=by
  intro a k i hi ha hp hk hb
  have c:(0:Int)≤(i:Int)∧(i:Int) < (a.length:Int):=by omega
  unfold Gi_Rpc at hp
  obtain ⟨k1,l1,m1,m2,m3,m4,m5⟩:=hmk_EntryS a[i].List (k+1+1+1+1+1+1+1) (hp.1) (by omega) (by omega)
  refine ⟨⟨k,k+1,k+1+1,k+1+1+1,k+1+1+1+1,k+1+1+1+1+1,k+1+1+1+1+1+1,l1,decide ((Int.tmod (k1) 3)=0),mText (k1+1)⟩,k1+1+1,?_,by omega,by omega,fun d hd hdl hdy=>?_⟩
  ·show l_markRpcS_L1 a k i=l_markRpcS_L1 _ _ _
   rw [l_markRpcS_L1_eq,if_pos (decide_eq_true c.2),if_pos c,w64_id (n:=k+1) (by omega) (by omega),w64_id (n:=k+1+1) (by omega) (by omega),w64_id (n:=k+1+1+1) (by omega) (by omega),w64_id (n:=k+1+1+1+1) (by omega) (by omega),w64_id (n:=k+1+1+1+1+1) (by omega) (by omega),w64_id (n:=k+1+1+1+1+1+1) (by omega) (by omega),w64_id (n:=k+1+1+1+1+1+1+1) (by omega) (by omega),w64_succ hi (by omega)]
   simp only [List.length_set,if_pos c,Int.toNat_natCast,getD_set,hi,List.set_set]
   rw [getD_lt hi,m1,Option.bind_some]
   dsimp only
   rw [w64_id (n:=k1+1) (by omega) (by omega),w64_id (n:=k1+1+1) (by omega) (by omega),markText_eq _ (by omega),Option.bind_some]
  ·show l_heldRpcS_L1 d k i=l_heldRpcS_L1 _ _ _
   have c2:(0:Int)≤(i:Int)∧(i:Int) < (d.length:Int):=by omega
   rw [l_heldRpcS_L1_eq,if_pos (decide_eq_true c2.2),w64_id (n:=k+1) (by omega) (by omega),w64_id (n:=k+1+1) (by omega) (by omega),w64_id (n:=k+1+1+1) (by omega) (by omega),w64_id (n:=k+1+1+1+1) (by omega) (by omega),w64_id (n:=k+1+1+1+1+1) (by omega) (by omega),w64_id (n:=k+1+1+1+1+1+1) (by omega) (by omega),w64_id (n:=k+1+1+1+1+1+1+1) (by omega) (by omega),w64_succ hd (by omega),getD_nat hd,hdy]
   simp only [if_pos c2,m2,Option.bind_some,decide_true,Bool.not_true,Bool.false_eq_true,if_false]
   rw [if_neg (by rw [decide_eq_true_eq]; omega),w64_id (n:=k1+1) (by omega) (by omega),w64_id (n:=k1+1+1) (by omega) (by omega),markText_eq _ (by omega),Option.bind_some]
   simp only [decide_true,Bool.not_true,Bool.false_eq_true,if_false]
 obtain ⟨k',l',e1,e2,e3,e4,e5⟩:=mark_rows (fun a k i=>l_markRpcS_L1 a k i) (fun a k i=>l_heldRpcS_L1 a k i) (Gi_Rpc 2097152) 8388617 2305843009213693952
  (fun a k=>by show l_markRpcS_L1 a k _=_; rw [l_markRpcS_L1_eq,if_neg (by simp)])
  (fun a k=>by show l_heldRpcS_L1 a k _=_; rw [l_heldRpcS_L1_eq,if_neg (by simp)])
  step l k (by omega) (h.2) hk (by omega)
 exact ⟨k',l',e1,by rw [l_heldRpcS_eq]; exact e2,e3,e4,by omega⟩
theorem hsz_Peer (x:laws_Peer) (n:Int) (h:Gl_Peer 9223372036854775807 x) (h0:0≤n) (h1:n≤1048576):∃ r,l_szPeer x n=some (r,())∧r≤1048576∧(0≤r→Gl_Peer 1048576 x):=by
 unfold Gl_Peer at h
 rw [l_szPeer_eq]
 obtain ⟨r0,e0,f0,g0⟩:=hsz_Hard x.Hard n (h.1) (by omega) (by omega)
 rw [e0,Option.bind_some]
 dsimp only
 by_cases c0:r0 < 0
 ·rw [if_pos (decide_eq_true c0)]; exact ⟨-1,rfl,by omega,fun h=>by omega⟩
 rw [if_neg (by rw [decide_eq_true_eq]; exact c0)]
 obtain ⟨r1,e1,f1,g1⟩:=hsz_BoolS x.Votes r0 (h.2.1) (by omega) (by omega)
 rw [e1,Option.bind_some]
 dsimp only
 by_cases c1:r1 < 0
 ·rw [if_pos (decide_eq_true c1)]; exact ⟨-1,rfl,by omega,fun h=>by omega⟩
 rw [if_neg (by rw [decide_eq_true_eq]; exact c1)]
 obtain ⟨r2,e2,f2,g2⟩:=hsz_IntS x.Next r1 (h.2.2.1) (by omega) (by omega)
 rw [e2,Option.bind_some]
 dsimp only
 by_cases c2:r2 < 0
 ·rw [if_pos (decide_eq_true c2)]; exact ⟨-1,rfl,by omega,fun h=>by omega⟩
 rw [if_neg (by rw [decide_eq_true_eq]; exact c2)]
 obtain ⟨r3,e3,f3,g3⟩:=hsz_IntS x.Match r2 (h.2.2.2.1) (by omega) (by omega)
 rw [e3,Option.bind_some]
 dsimp only
 by_cases c3:r3 < 0
 ·rw [if_pos (decide_eq_true c3)]; exact ⟨-1,rfl,by omega,fun h=>by omega⟩
 rw [if_neg (by rw [decide_eq_true_eq]; exact c3)]
 obtain ⟨r4,e4,f4,g4⟩:=hsz_Mach x.Now r3 (h.2.2.2.2.1) (by omega) (by omega)
 rw [e4,Option.bind_some]
 dsimp only
 by_cases c4:r4 < 0
 ·rw [if_pos (decide_eq_true c4)]; exact ⟨-1,rfl,by omega,fun h=>by omega⟩
 rw [if_neg (by rw [decide_eq_true_eq]; exact c4)]
 obtain ⟨r5,e5,f5,g5⟩:=hsz_Disk x.Disk r4 (h.2.2.2.2.2.1) (by omega) (by omega)
 rw [e5,Option.bind_some]
 dsimp only
 by_cases c5:r5 < 0
 ·rw [if_pos (decide_eq_true c5)]; exact ⟨-1,rfl,by omega,fun h=>by omega⟩
 rw [if_neg (by rw [decide_eq_true_eq]; exact c5)]
 obtain ⟨r6,e6,f6,g6⟩:=hsz_RpcS x.Held r5 (h.2.2.2.2.2.2) (by omega) (by omega)
 rw [e6,Option.bind_some]
 dsimp only
 by_cases c6:r6 < 0
 ·rw [if_pos (decide_eq_true c6)]; exact ⟨-1,rfl,by omega,fun h=>by omega⟩
 rw [if_neg (by rw [decide_eq_true_eq]; exact c6)]
 exact ⟨_,rfl,by omega,fun _=>by unfold Gl_Peer; exact ⟨g0 (by omega),g1 (by omega),g2 (by omega),g3 (by omega),g4 (by omega),g5 (by omega),g6 (by omega)⟩⟩
def hc_Peer (x:laws_Peer):impl_Peer:=⟨x.Id,(hc_Hard x.Hard),x.Role,x.Votes,x.Next,x.Match,x.Commit,(hc_Mach x.Now),(hc_Disk x.Disk),(x.Held.map hc_Rpc)⟩
theorem hto_Peer (x:laws_Peer) (h:Gl_Peer 1048576 x):l_toPeer x=some (hc_Peer x,()):=by
 unfold Gl_Peer at h
 rw [l_toPeer_eq]
 rw [hto_Hard _ (h.1),Option.bind_some]
 rw [hto_BoolS _ (h.2.1),Option.bind_some]
 rw [hto_IntS _ (h.2.2.1),Option.bind_some]
 rw [hto_IntS _ (h.2.2.2.1),Option.bind_some]
 rw [hto_Mach _ (h.2.2.2.2.1),Option.bind_some]
 rw [hto_Disk _ (h.2.2.2.2.2.1),Option.bind_some]
 rw [hto_RpcS _ (h.2.2.2.2.2.2),Option.bind_some]
 rfl
theorem hg_Peer {x:laws_Peer} {M:Nat} (h:Gl_Peer M x):Gi_Peer M (hc_Peer x):=by
 unfold Gl_Peer at h
 unfold Gi_Peer hc_Peer
 exact ⟨hg_Hard (h.1),h.2.1,h.2.2.1,h.2.2.2.1,hg_Mach (h.2.2.2.2.1),hg_Disk (h.2.2.2.2.2.1),⟨by rw [List.length_map]; exact (h.2.2.2.2.2.2).1,fun y hy=>by obtain ⟨x',hx',rfl⟩:=List.mem_map.1 hy; exact hg_Rpc ((h.2.2.2.2.2.2).2 x' hx')⟩⟩
theorem heq_Peer (x:impl_Peer) (h:Gi_Peer 2097152 x):l_eqPeer x x=some (true,()):=by
 unfold Gi_Peer at h
 rw [l_eqPeer_eq]
 rw [heq_Hard _ (h.1),heq_BoolS _ (h.2.1),heq_IntS _ (h.2.2.1),heq_IntS _ (h.2.2.2.1),heq_Mach _ (h.2.2.2.2.1),heq_Disk _ (h.2.2.2.2.2.1),heq_RpcS _ (h.2.2.2.2.2.2)]
 simp
theorem hmk_Peer (x:impl_Peer) (k:Int) (h:Gi_Peer 2097152 x) (hk:0≤k) (hb:k+17592259444736≤2305843009213693952):∃ k' x',l_markPeer x k=some (k',x',())∧l_heldPeer x' k=some (k',())∧k≤k'∧k'≤k+17592259444736:=by
 unfold Gi_Peer at h
 obtain ⟨k0,x0,a0,b0,c0,d0⟩:=hmk_Hard x.Hard k (h.1) (by omega) (by omega)
 obtain ⟨k1,x1,a1,b1,_,c1,d1⟩:=hmk_BoolS x.Votes k0 (h.2.1) (by omega) (by omega)
 obtain ⟨k2,x2,a2,b2,_,c2,d2⟩:=hmk_IntS x.Next k1 (h.2.2.1) (by omega) (by omega)
 obtain ⟨k3,x3,a3,b3,_,c3,d3⟩:=hmk_IntS x.Match k2 (h.2.2.2.1) (by omega) (by omega)
 obtain ⟨k4,x4,a4,b4,c4,d4⟩:=hmk_Mach x.Now k3 (h.2.2.2.2.1) (by omega) (by omega)
 obtain ⟨k5,x5,a5,b5,c5,d5⟩:=hmk_Disk x.Disk k4 (h.2.2.2.2.2.1) (by omega) (by omega)
 obtain ⟨k6,x6,a6,b6,_,c6,d6⟩:=hmk_RpcS x.Held k5 (h.2.2.2.2.2.2) (by omega) (by omega)
 refine ⟨k6,⟨x.Id,x0,x.Role,x1,x2,x3,x.Commit,x4,x5,x6⟩,?_,?_,by omega,by omega⟩
 ·rw [l_markPeer_eq,a0,Option.bind_some,a1,Option.bind_some,a2,Option.bind_some,a3,Option.bind_some,a4,Option.bind_some,a5,Option.bind_some,a6,Option.bind_some]
 ·rw [l_heldPeer_eq,b0,Option.bind_some,if_neg (by rw [decide_eq_true_eq]; omega),b1,Option.bind_some,if_neg (by rw [decide_eq_true_eq]; omega),b2,Option.bind_some,if_neg (by rw [decide_eq_true_eq]; omega),b3,Option.bind_some,if_neg (by rw [decide_eq_true_eq]; omega),b4,Option.bind_some,if_neg (by rw [decide_eq_true_eq]; omega),b5,Option.bind_some,if_neg (by rw [decide_eq_true_eq]; omega),b6,Option.bind_some,if_neg (by rw [decide_eq_true_eq]; omega)]
end Go.Proofs.YtcngnpahpbaagaaGreatDoor.E.TH
namespace Go.Proofs.YtcngnpahpbaagaaGreatDoor.E
set_option linter.unusedVariables false
def anyB (p:Nat→Bool) (n:Nat):Bool:=(List.range n).any p
theorem anyB_iff {p:Nat→Bool} {n:Nat}:anyB p n=true ↔ ∃ i,i < n∧p i=true:=by
 unfold anyB
 rw [List.any_eq_true]
 constructor
 ·rintro ⟨i,h,e⟩; exact ⟨i,List.mem_range.1 h,e⟩
 ·rintro ⟨i,h,e⟩; exact ⟨i,List.mem_range.2 h,e⟩
theorem anyB_false {p:Nat→Bool} {n:Nat}:anyB p n=false ↔ ∀ i,i < n→p i=false:=by
 rw [← Bool.not_eq_true,anyB_iff]
 constructor
 ·intro h i hi
  cases e:p i with
  | false=>rfl
  | true=>exact absurd ⟨i,hi,e⟩ h
 ·rintro h ⟨i,hi,e⟩
  rw [h i hi] at e; cases e
theorem anyB_or (p q:Nat→Bool) (n:Nat):anyB (fun i=>p i || q i) n=(anyB p n || anyB q n):=by
 cases h:anyB p n with
 | true =>
  obtain ⟨i,hi,e⟩:=anyB_iff.1 h
  rw [Bool.true_or,anyB_iff]; exact ⟨i,hi,by rw [e]; rfl⟩
 | false =>
  rw [Bool.false_or]
  have h':=anyB_false.1 h
  cases g:anyB q n with
  | true =>
   obtain ⟨i,hi,e⟩:=anyB_iff.1 g
   rw [anyB_iff]; exact ⟨i,hi,by rw [e,Bool.or_true]⟩
  | false=>rw [anyB_false]; intro i hi; rw [h' i hi,anyB_false.1 g i hi]; rfl
theorem find_loopN {ρ:Type} (F:Int→Option ρ) (n:Nat) (p:Nat→Bool) (x y:Option ρ)
  (step:∀ i:Nat,i < n→F i=if p i=true then x else F ((i+1:Nat):Int)) (stop:F (n:Int)=y):F 0=if anyB p n=true then x else y:=by
 have key:∀ (d i:Nat),i+d=n→(∀ j,j < i→p j=false)→F (i:Int)=if anyB p n=true then x else y:=by
  intro d
  induction d with
  | zero =>
   intro i hd hj
   have hi:i=n:=by omega
   subst hi
   rw [stop,anyB_false.2 hj]; rfl
  | succ d ih =>
   intro i hd hj
   rw [step i (by omega)]
   cases e:p i with
   | true=>rw [if_pos rfl,anyB_iff.2 ⟨i,by omega,e⟩,if_pos rfl]
   | false =>
    rw [if_neg (by simp)]
    refine ih (i+1) (by omega) fun j h=>?_
    by_cases h':j=i
    ·subst h'; exact e
    ·exact hj j (by omega)
 exact key n 0 (by omega) (fun j h=>absurd h (by omega))
theorem index_loop {σ:Type} (F:Int→Option (Int × σ)) (s:σ) (n:Nat) (p:Nat→Bool)
  (step:∀ i:Nat,i < n→F i=if p i=true then some ((i:Int),s) else F ((i+1:Nat):Int)) (stop:F (n:Int)=some (-1,s)) :
  ∃ k:Int,F 0=some (k,s)∧decide (k ≥ 0)=anyB p n∧k < n∧(0≤k→p k.toNat=true∧∀ j:Nat,(j:Int) < k→p j=false)∧(k < 0→k = -1):=by
 have key:∀ (d i:Nat),i+d=n→(∀ j,j < i→p j=false)→∃ k:Int,F (i:Int)=some (k,s)∧decide (k ≥ 0)=anyB p n∧k < n∧(0≤k→p k.toNat=true∧∀ j:Nat,(j:Int) < k→p j=false)∧(k < 0→k = -1):=by
  intro d
  induction d with
  | zero =>
   intro i hd hj
   have hi:i=n:=by omega
   subst hi
   exact ⟨-1,stop,by rw [anyB_false.2 hj]; rfl,by omega,fun h=>by omega,fun _=>rfl⟩
  | succ d ih =>
   intro i hd hj
   rw [step i (by omega)]
   cases e:p i with
   | true=>rw [if_pos rfl]; exact ⟨i,rfl,by rw [anyB_iff.2 ⟨i,by omega,e⟩]; exact decide_eq_true (by omega),by omega,fun _=>⟨by rw [Int.toNat_natCast]; exact e,fun j h=>hj j (by omega)⟩,fun h=>by omega⟩
   | false =>
    rw [if_neg (by simp)]
    refine ih (i+1) (by omega) fun j h=>?_
    by_cases h':j=i
    ·subst h'; exact e
    ·exact hj j (by omega)
 exact key n 0 (by omega) (fun j h=>absurd h (by omega))
theorem anyB_list {α:Type} (l:List α) (z:α) (p:α→Bool):anyB (fun i=>p (l.getD i z)) l.length=l.any p:=by
 cases h:l.any p with
 | true =>
  obtain ⟨x,hx,e⟩:=List.any_eq_true.1 h
  obtain ⟨i,hi,rfl⟩:=List.mem_iff_getElem.1 hx
  exact anyB_iff.2 ⟨i,hi,by rw [getD_lt hi]; exact e⟩
 | false =>
  rw [anyB_false]
  intro i hi
  rw [getD_lt hi]
  cases e:p l[i] with
  | false=>rfl
  | true =>
   have:l.any p=true:=List.any_eq_true.2 ⟨l[i],List.getElem_mem hi,e⟩
   rw [h] at this; cases this
theorem mark_only {α:Type} (L:List α→Int→Int→Option (Int × Unit)) (P:α→Prop) (b:Nat) (bd:Int)
  (stop:∀ a k,L a k (a.length:Int)=some (k,()))
  (step:∀ (a:List α) (k:Int) (i:Nat) (h:i < a.length),a.length≤4294967296→P a[i]→0≤k→k+b≤bd→∃ y k',L a k i=L (a.set i y) k' ((i+1:Nat):Int)∧k≤k'∧k'≤k+b)
  (l:List α) (k:Int) (hl:l.length≤4294967296) (hP:∀ x∈l,P x) (hk:0≤k) (hb:k+b * l.length≤bd) :
  ∃ k',L l k 0=some (k',())∧k≤k'∧k'≤k+b * l.length:=by
 have hs:∀ d:Nat,(b * ((d+1:Nat):Int):Int)=b * d+b:=fun d=>by rw [Int.natCast_add,Int.mul_add]; simp
 have hz:∀ d:Nat,(0:Int)≤b * d:=fun d=>by exact_mod_cast Nat.zero_le (b * d)
 have key:∀ (d i:Nat) (a:List α) (k:Int),i+d=a.length→a.length≤4294967296→(∀ j (h:j < a.length),i≤j→P a[j])→0≤k→k+b * d≤bd →
   ∃ k',L a k (i:Int)=some (k',())∧k≤k'∧k'≤k+b * d:=by
  intro d
  induction d with
  | zero =>
   intro i a k hd hl hp hk hb
   have hi:i=a.length:=by omega
   subst hi
   exact ⟨k,stop a k,Int.le_refl k,by simp⟩
  | succ d ih =>
   intro i a k hd hl hp hk hb
   have hi:i < a.length:=by omega
   have h0:=hz d
   rw [hs] at hb
   obtain ⟨y,k1,e1,e2,e3⟩:=step a k i hi hl (hp i hi (Nat.le_refl i)) hk (by omega)
   obtain ⟨k',f1,f2,f3⟩:=ih (i+1) (a.set i y) k1 (by rw [List.length_set]; omega) (by rw [List.length_set]; exact hl)
    (fun j hj hij=>by rw [List.getElem_set_ne (by omega)]; exact hp j (by rw [List.length_set] at hj; exact hj) (by omega)) (by omega) (by omega)
   exact ⟨k',e1.trans f1,by omega,by rw [hs]; omega⟩
 exact key l.length 0 l k (by omega) hl (fun j hj _=>hP _ (List.getElem_mem hj)) hk hb
end Go.Proofs.YtcngnpahpbaagaaGreatDoor.E
namespace Go.Proofs.YtcngnpahpbaagaaGreatDoor.E.TH
open Go.Proofs.YtcngnpahpbaagaaGreatDoor.E
set_option linter.unusedVariables false
theorem hsz_StringS (l:List (List Int)) (n:Int) (h:l.length≤9223372036854775807∧∀ x∈l,x.length≤9223372036854775807) (h0:0≤n) (h1:n≤1048576):∃ r,l_szStringS l n=some (r,())∧r≤1048576∧(0≤r→l.length≤1048576∧∀ x∈l,x.length≤1048576):=by
 have hl:=h.1
 rw [l_szStringS_eq,w64_id (n:=n - (l.length:Int)) (by omega) (by omega)]
 by_cases c:n - (l.length:Int) < 0
 ·rw [if_pos (decide_eq_true c)]; exact ⟨-1,rfl,by omega,fun h=>by omega⟩
 ·rw [if_neg (by rw [decide_eq_true_eq]; exact c)]
  have key:∀ (d i:Nat) (k:Int),i+d=l.length→0≤k→k≤1048576→∃ r,l_szStringS_L1 l k i=some (r,())∧r≤1048576∧(0≤r→∀ j (h:j < l.length),i≤j→l[j].length≤1048576):=by
   intro d
   induction d with
   | zero =>
    intro i k hd k0 k1
    rw [l_szStringS_L1_eq,if_neg (by rw [decide_eq_true_eq]; omega)]
    exact ⟨k,rfl,k1,fun _ j hj hij=>by omega⟩
   | succ d ih =>
    intro i k hd k0 k1
    have hi:i < l.length:=by omega
    have hx:=h.2 _ (List.getElem_mem hi)
    rw [l_szStringS_L1_eq,if_pos (decide_eq_true (by omega)),if_pos (by omega),getD_nat hi,w64_succ hi (by omega),w64_id (n:=k - (l[i].length:Int)) (by omega) (by omega)]
    by_cases g:k - (l[i].length:Int) < 0
    ·rw [if_pos (decide_eq_true g)]; exact ⟨-1,rfl,by omega,fun h=>by omega⟩
    ·rw [if_neg (by rw [decide_eq_true_eq]; exact g)]
     obtain ⟨r,e1,e2,e3⟩:=ih (i+1) (k - (l[i].length:Int)) (by omega) (by omega) (by omega)
     refine ⟨r,e1,e2,fun hr j hj hij=>?_⟩
     by_cases e:j=i
     ·subst e; omega
     ·exact e3 hr j hj (by omega)
  obtain ⟨r,e1,e2,e3⟩:=key l.length 0 (n - l.length) (by omega) (by omega) (by omega)
  exact ⟨r,e1,e2,fun hr=>⟨by omega,fun x hx=>by
   obtain ⟨j,hj,rfl⟩:=List.mem_iff_getElem.1 hx
   exact e3 hr j hj (by omega)⟩⟩
theorem hto_StringS (l:List (List Int)) (h:l.length≤1048576∧∀ x∈l,x.length≤1048576):l_toStringS l=some (l,()):=by
 rw [l_toStringS_eq,if_pos (by have:=h.1; rw [room_eq]; omega)]
 have:=to_loop (fun acc i=>l_toStringS_L1 l acc i) id l (fun acc i hi ha=>by
  show l_toStringS_L1 l acc i=_
  have hl:=h.1
  rw [l_toStringS_L1_eq,if_pos (decide_eq_true (by omega)),if_pos (by omega),if_pos (by omega),w64_succ hi (by omega),Int.toNat_natCast,getD_lt hi]
  rfl) (fun acc ha=>by
  show l_toStringS_L1 l acc _=_
  rw [l_toStringS_L1_eq,if_neg (by simp)]) (List.replicate (List.length l:Int).toNat []) (by simp)
 rw [List.map_id] at this
 exact this
theorem heq_StringS (l:List (List Int)) (h:l.length≤2097152∧∀ x∈l,x.length≤2097152):l_eqStringS l l=some (true,()):=by
 have hl:=h.1
 rw [l_eqStringS_eq,if_neg (by simp)]
 exact all_loop (fun i=>l_eqStringS_L1 l l i) l _ (fun i hi=>by
  show l_eqStringS_L1 l l i=_
  rw [l_eqStringS_L1_eq,if_pos (decide_eq_true (by omega)),if_pos (by omega),if_pos (by omega),if_neg (by simp),w64_succ hi (by omega)]) (by
  show l_eqStringS_L1 l l _=_
  rw [l_eqStringS_L1_eq,if_neg (by simp)])
theorem hmk_StringS (l:List (List Int)) (k:Int) (h:l.length≤2097152∧∀ x∈l,x.length≤2097152) (hk:0≤k) (hb:k+2097152≤2305843009213693952):∃ k',l_markStringS l k=some (k',())∧k≤k'∧k'≤k+2097152:=by
 have hl:=h.1
 rw [l_markStringS_eq]
 obtain ⟨k',e1,e2,e3⟩:=mark_only (fun a k i=>l_markStringS_L1 a k i) (fun _=>True) 1 2305843009213693952 (fun a k=>by show l_markStringS_L1 a k _=_; rw [l_markStringS_L1_eq,if_neg (by simp)])
  (fun a k i hi ha hp hk hb=>⟨mText k,k+1,by
   show l_markStringS_L1 a k i=l_markStringS_L1 _ _ _
   rw [l_markStringS_L1_eq,if_pos (decide_eq_true (by omega)),markText_eq _ (by omega),Option.bind_some,if_pos (by omega),w64_id (n:=k+1) (by omega) (by omega),w64_succ hi (by omega),Int.toNat_natCast],by omega,by omega⟩) l k (by omega) (fun _ _=>trivial) hk (by omega)
 exact ⟨k',e1,e2,by omega⟩
def Gl_Op (M:Nat) (x:laws_Op):Prop:=x.S.length≤M
def Gi_Op (M:Nat) (x:impl_Op):Prop:=x.S.length≤M
def Gl_Prog (M:Nat) (x:laws_Prog):Prop:=(x.Vars.length≤M∧∀ y∈x.Vars,y.length≤M)∧(x.Cells.length≤M∧∀ y∈x.Cells,y.length≤M)∧(x.Start.length≤M∧∀ y∈x.Start,Gl_Op M y)∧(x.Main.length≤M∧∀ y∈x.Main,Gl_Op M y)
def Gi_Prog (M:Nat) (x:impl_Prog):Prop:=(x.Vars.length≤M∧∀ y∈x.Vars,y.length≤M)∧(x.Cells.length≤M∧∀ y∈x.Cells,y.length≤M)∧(x.Start.length≤M∧∀ y∈x.Start,Gi_Op M y)∧(x.Main.length≤M∧∀ y∈x.Main,Gi_Op M y)
theorem hf_Op {d:Nat} {x:laws_Op} (h:Fine (G:=gam) (d+3) (.nm 1) x):Gl_Op 9223372036854775807 x:=by
 have h':_∧_∧(x.S.length≤9223372036854775807∧_)∧_:=h
 unfold Gl_Op
 exact h'.2.2.1.1
theorem hf_Prog {d:Nat} {x:laws_Prog} (h:Fine (G:=gam) (d+5) (.nm 0) x):Gl_Prog 9223372036854775807 x:=by
 have h':(x.Vars.length≤9223372036854775807∧∀ y∈x.Vars,(y.length≤9223372036854775807∧∀ b∈y,0≤b∧b≤255))∧(x.Cells.length≤9223372036854775807∧∀ y∈x.Cells,(y.length≤9223372036854775807∧∀ b∈y,0≤b∧b≤255))∧(x.Start.length≤9223372036854775807∧∀ y∈x.Start,Fine (G:=gam) (d+3) (.nm 1) y)∧(x.Main.length≤9223372036854775807∧∀ y∈x.Main,Fine (G:=gam) (d+3) (.nm 1) y)∧_:=h
 unfold Gl_Prog
 exact ⟨⟨h'.1.1,fun y hy=>(h'.1.2 y hy).1⟩,⟨h'.2.1.1,fun y hy=>(h'.2.1.2 y hy).1⟩,⟨h'.2.2.1.1,fun y hy=>hf_Op (d:=d+0) (h'.2.2.1.2 y hy)⟩,⟨h'.2.2.2.1.1,fun y hy=>hf_Op (d:=d+0) (h'.2.2.2.1.2 y hy)⟩⟩
theorem hsz_Op (x:laws_Op) (n:Int) (h:Gl_Op 9223372036854775807 x) (h0:0≤n) (h1:n≤1048576):∃ r,l_szOp x n=some (r,())∧r≤1048576∧(0≤r→Gl_Op 1048576 x):=by
 unfold Gl_Op at h
 rw [l_szOp_eq]
 have hl0:=h
 rw [w64_id (n:=n - (x.S.length:Int)) (by omega) (by omega)]
 by_cases c0:n - (x.S.length:Int) < 0
 ·rw [if_pos (decide_eq_true c0)]; exact ⟨-1,rfl,by omega,fun h=>by omega⟩
 rw [if_neg (by rw [decide_eq_true_eq]; exact c0)]
 exact ⟨_,rfl,by omega,fun _=>by unfold Gl_Op; exact by omega⟩
def hc_Op (x:laws_Op):impl_Op:=⟨x.Code,x.N,x.S⟩
theorem hto_Op (x:laws_Op) (h:Gl_Op 1048576 x):l_toOp x=some (hc_Op x,()):=by
 unfold Gl_Op at h
 rw [l_toOp_eq]
 rfl
theorem hg_Op {x:laws_Op} {M:Nat} (h:Gl_Op M x):Gi_Op M (hc_Op x):=by
 unfold Gl_Op at h
 unfold Gi_Op hc_Op
 exact h
theorem heq_Op (x:impl_Op) (h:Gi_Op 2097152 x):l_eqOp x x=some (true,()):=by
 unfold Gi_Op at h
 rw [l_eqOp_eq]
 simp
theorem hsz_OpS (l:List laws_Op) (n:Int) (h:l.length≤9223372036854775807∧∀ x∈l,Gl_Op 9223372036854775807 x) (h0:0≤n) (h1:n≤1048576):∃ r,l_szOpS l n=some (r,())∧r≤1048576∧(0≤r→l.length≤1048576∧∀ x∈l,Gl_Op 1048576 x):=by
 have hl:=h.1
 rw [l_szOpS_eq,w64_id (n:=n - (l.length:Int)) (by omega) (by omega)]
 by_cases c:n - (l.length:Int) < 0
 ·rw [if_pos (decide_eq_true c)]; exact ⟨-1,rfl,by omega,fun h=>by omega⟩
 ·rw [if_neg (by rw [decide_eq_true_eq]; exact c)]
  obtain ⟨r,e1,e2,e3⟩:=sz_rows (fun k i=>l_szOpS_L1 l k i) l_szOp l (Gl_Op 1048576) (by omega) (fun x hx k k0 k1=>hsz_Op x k (h.2 x hx) k0 k1)
   (fun k=>by show l_szOpS_L1 l k _=_; rw [l_szOpS_L1_eq,if_neg (by simp)])
   (fun k i hi=>by show l_szOpS_L1 l k i=_; rw [l_szOpS_L1_eq,if_pos (decide_eq_true (by omega)),if_pos (by omega),getD_nat hi,w64_succ hi (by omega)]) (n - l.length) (by omega) (by omega)
  exact ⟨r,e1,e2,fun hr=>⟨by omega,e3 hr⟩⟩
theorem hto_OpS (l:List laws_Op) (h:l.length≤1048576∧∀ x∈l,Gl_Op 1048576 x):l_toOpS l=some (l.map hc_Op,()):=by
 rw [l_toOpS_eq,if_pos (by have:=h.1; rw [room_eq]; omega)]
 have:=to_loop (fun acc i=>l_toOpS_L1 l acc i) hc_Op l (fun acc i hi ha=>by
  show l_toOpS_L1 l acc i=_
  have hl:=h.1
  rw [l_toOpS_L1_eq,if_pos (decide_eq_true (by omega)),if_pos (by omega),getD_nat hi,hto_Op _ (h.2 _ (List.getElem_mem hi)),Option.bind_some,if_pos (by omega),w64_succ hi (by omega),Int.toNat_natCast]
  ) (fun acc ha=>by
  show l_toOpS_L1 l acc _=_
  rw [l_toOpS_L1_eq,if_neg (by simp)]) (List.replicate (List.length l:Int).toNat z_impl_Op) (by simp)
 exact this
theorem heq_OpS (l:List impl_Op) (h:l.length≤2097152∧∀ x∈l,Gi_Op 2097152 x):l_eqOpS l l=some (true,()):=by
 have hl:=h.1
 rw [l_eqOpS_eq,if_neg (by simp)]
 exact all_loop (fun i=>l_eqOpS_L1 l l i) l _ (fun i hi=>by
  show l_eqOpS_L1 l l i=_
  rw [l_eqOpS_L1_eq,if_pos (decide_eq_true (by omega)),if_pos (by omega),if_pos (by omega),getD_nat hi,heq_Op _ (h.2 _ (List.getElem_mem hi)),Option.bind_some,if_neg (by simp),w64_succ hi (by omega)]) (by
  show l_eqOpS_L1 l l _=_
  rw [l_eqOpS_L1_eq,if_neg (by simp)])
theorem hmk_OpS (l:List impl_Op) (k:Int) (h:l.length≤2097152∧∀ x∈l,Gi_Op 2097152 x) (hk:0≤k) (hb:k+6291456≤2305843009213693952):∃ k',l_markOpS l k=some (k',())∧k≤k'∧k'≤k+6291456:=by
 have hl:=h.1
 rw [l_markOpS_eq]
 have step:∀ (a:List impl_Op) (k:Int) (i:Nat) (hi:i < a.length),a.length≤4294967296→(Gi_Op 2097152) a[i]→0≤k→k+(3:Nat)≤2305843009213693952→∃ y k',l_markOpS_L1 a k i=l_markOpS_L1 (a.set i y) k' ((i+1:Nat):Int)∧k≤k'∧k'≤k+(3:Nat):=by
  intro a k i hi ha hp hk hb
  have c:(0:Int)≤(i:Int)∧(i:Int) < (a.length:Int):=by omega
  refine ⟨⟨k,k+1,mText (k+1+1)⟩,k+1+1+1,?_,by omega,by omega⟩
  show l_markOpS_L1 a k i=l_markOpS_L1 _ _ _
  rw [l_markOpS_L1_eq,if_pos (decide_eq_true c.2),if_pos c,w64_id (n:=k+1) (by omega) (by omega),w64_id (n:=k+1+1) (by omega) (by omega),w64_id (n:=k+1+1+1) (by omega) (by omega),w64_succ hi (by omega),markText_eq _ (by omega)]
  simp only [List.length_set,if_pos c,Option.bind_some,Int.toNat_natCast,getD_set,hi,List.set_set]
 obtain ⟨k',e1,e2,e3⟩:=mark_only (fun a k i=>l_markOpS_L1 a k i) (Gi_Op 2097152) 3 2305843009213693952 (fun a k=>by show l_markOpS_L1 a k _=_; rw [l_markOpS_L1_eq,if_neg (by simp)]) step l k (by omega) h.2 hk (by omega)
 exact ⟨k',e1,e2,by omega⟩
theorem hsz_Prog (x:laws_Prog) (n:Int) (h:Gl_Prog 9223372036854775807 x) (h0:0≤n) (h1:n≤1048576):∃ r,l_szProg x n=some (r,())∧r≤1048576∧(0≤r→Gl_Prog 1048576 x):=by
 unfold Gl_Prog at h
 rw [l_szProg_eq]
 obtain ⟨r0,e0,f0,g0⟩:=hsz_StringS x.Vars n (h.1) (by omega) (by omega)
 rw [e0,Option.bind_some]
 dsimp only
 by_cases c0:r0 < 0
 ·rw [if_pos (decide_eq_true c0)]; exact ⟨-1,rfl,by omega,fun h=>by omega⟩
 rw [if_neg (by rw [decide_eq_true_eq]; exact c0)]
 obtain ⟨r1,e1,f1,g1⟩:=hsz_StringS x.Cells r0 (h.2.1) (by omega) (by omega)
 rw [e1,Option.bind_some]
 dsimp only
 by_cases c1:r1 < 0
 ·rw [if_pos (decide_eq_true c1)]; exact ⟨-1,rfl,by omega,fun h=>by omega⟩
 rw [if_neg (by rw [decide_eq_true_eq]; exact c1)]
 obtain ⟨r2,e2,f2,g2⟩:=hsz_OpS x.Start r1 (h.2.2.1) (by omega) (by omega)
 rw [e2,Option.bind_some]
 dsimp only
 by_cases c2:r2 < 0
 ·rw [if_pos (decide_eq_true c2)]; exact ⟨-1,rfl,by omega,fun h=>by omega⟩
 rw [if_neg (by rw [decide_eq_true_eq]; exact c2)]
 obtain ⟨r3,e3,f3,g3⟩:=hsz_OpS x.Main r2 (h.2.2.2) (by omega) (by omega)
 rw [e3,Option.bind_some]
 dsimp only
 by_cases c3:r3 < 0
 ·rw [if_pos (decide_eq_true c3)]; exact ⟨-1,rfl,by omega,fun h=>by omega⟩
 rw [if_neg (by rw [decide_eq_true_eq]; exact c3)]
 exact ⟨_,rfl,by omega,fun _=>by unfold Gl_Prog; exact ⟨g0 (by omega),g1 (by omega),g2 (by omega),g3 (by omega)⟩⟩
def hc_Prog (x:laws_Prog):impl_Prog:=⟨x.Vars,x.Cells,(x.Start.map hc_Op),(x.Main.map hc_Op)⟩
theorem hto_Prog (x:laws_Prog) (h:Gl_Prog 1048576 x):l_toProg x=some (hc_Prog x,()):=by
 unfold Gl_Prog at h
 rw [l_toProg_eq]
 rw [hto_StringS _ (h.1),Option.bind_some]
 rw [hto_StringS _ (h.2.1),Option.bind_some]
 rw [hto_OpS _ (h.2.2.1),Option.bind_some]
 rw [hto_OpS _ (h.2.2.2),Option.bind_some]
 rfl
theorem hg_Prog {x:laws_Prog} {M:Nat} (h:Gl_Prog M x):Gi_Prog M (hc_Prog x):=by
 unfold Gl_Prog at h
 unfold Gi_Prog hc_Prog
 exact ⟨h.1,h.2.1,⟨by rw [List.length_map]; exact (h.2.2.1).1,fun y hy=>by obtain ⟨x',hx',rfl⟩:=List.mem_map.1 hy; exact hg_Op ((h.2.2.1).2 x' hx')⟩,⟨by rw [List.length_map]; exact (h.2.2.2).1,fun y hy=>by obtain ⟨x',hx',rfl⟩:=List.mem_map.1 hy; exact hg_Op ((h.2.2.2).2 x' hx')⟩⟩
theorem heq_Prog (x:impl_Prog) (h:Gi_Prog 2097152 x):l_eqProg x x=some (true,()):=by
 unfold Gi_Prog at h
 rw [l_eqProg_eq]
 rw [heq_StringS _ (h.1),heq_StringS _ (h.2.1),heq_OpS _ (h.2.2.1),heq_OpS _ (h.2.2.2)]
 simp
theorem hmk_Prog (x:impl_Prog) (k:Int) (h:Gi_Prog 2097152 x) (hk:0≤k) (hb:k+16777216≤2305843009213693952):∃ k',l_markProg x k=some (k',())∧k≤k'∧k'≤k+16777216:=by
 unfold Gi_Prog at h
 obtain ⟨k0,a0,c0,d0⟩:=hmk_StringS x.Vars k (h.1) (by omega) (by omega)
 obtain ⟨k1,a1,c1,d1⟩:=hmk_StringS x.Cells k0 (h.2.1) (by omega) (by omega)
 obtain ⟨k2,a2,c2,d2⟩:=hmk_OpS x.Start k1 (h.2.2.1) (by omega) (by omega)
 obtain ⟨k3,a3,c3,d3⟩:=hmk_OpS x.Main k2 (h.2.2.2) (by omega) (by omega)
 refine ⟨k3,?_,by omega,by omega⟩
 rw [l_markProg_eq,a0,Option.bind_some,a1,Option.bind_some,a2,Option.bind_some,a3,Option.bind_some]
theorem i_in_ok (a b c:Int):i_in a b c=some (decide (b≤a∧a≤c),()):=by
 rw [i_in_eq]
 by_cases h:a ≥ b
 ·rw [if_pos (by simp [h])]; simp [show b≤a from h]
 ·rw [if_neg (by simp [h])]; simp [show ¬ b≤a from h]
theorem s_l1In_ok (a b c:Int):s_l1In a b c=some (decide (b≤a∧a≤c),()):=by
 rw [s_l1In_eq]
 by_cases h:b≤a
 ·rw [if_pos (by simp [h])]; simp [h]
 ·rw [if_neg (by simp [h])]; simp [h]
inductive Small:impl_Rex→Prop
 | mk (x:impl_Rex):x.Kids.length≤100→(∀ k∈x.Kids,Small k)→Small x
theorem small_leaf {x:impl_Rex} (h:x.Kids=[]):Small x:=.mk x (by rw [h]; decide) (fun k hk=>by rw [h] at hk; cases hk)
theorem mxI_max (a b:Int):mxI a b=if a > b then a else b:=by unfold mxI; split <;> split <;> omega
theorem deep_same {x:impl_Rex} (h:Small x):∃ v,s_l3Deep x=some (v,())∧i_rexDeep x=some (v,()):=by
 induction h with
 | mk x hl hs ih =>
  rw [s_l3Deep_eq,i_rexDeep_eq]
  have key:∀ (n i:Nat) (t:Int),i+n=x.Kids.length→∃ v,s_l3Deep_L1 t i x=some (v,())∧i_rexDeep_L1 t x.Kids x.Kids.length i=some (v,()):=by
   intro n
   induction n with
   | zero =>
    intro i t hi
    rw [s_l3Deep_L1_eq,i_rexDeep_L1_eq,if_neg (by rw [decide_eq_true_eq]; omega),if_neg (by rw [decide_eq_true_eq]; omega)]
    exact ⟨_,rfl,rfl⟩
   | succ n ihn =>
    intro i t hi
    have hi':i < x.Kids.length:=by omega
    obtain ⟨v,e1,e2⟩:=ih x.Kids[i] (List.getElem_mem hi')
    rw [s_l3Deep_L1_eq,if_pos (decide_eq_true (by omega)),if_pos (by omega),i_rexDeep_L1_eq,if_pos (decide_eq_true (by omega)),if_pos (by omega),getD_nat hi',e1,e2,Option.bind_some,Option.bind_some]
    dsimp only
    rw [s_l1Max_eq,mxI_max,w64_succ hi' (by omega)]
    by_cases c:t > v
    ·rw [if_pos (decide_eq_true c),if_pos c,Option.bind_some]; exact ihn (i+1) t (by omega)
    ·rw [if_neg (by rw [decide_eq_true_eq]; exact c),if_neg c,Option.bind_some]; exact ihn (i+1) v (by omega)
  exact key x.Kids.length 0 0 (by omega)
theorem now_bad {c:spec_l3Cur} {b:Int} (h:c.bad=true):s_l3Now c b=some (false,c,()):=by rw [s_l3Now_eq,if_neg (by simp [h])]
theorem now_end {S:List Int} {p:Nat} {b:Int} (h:S.length≤p):s_l3Now ⟨S,p,false⟩ b=some (false,⟨S,p,false⟩,()):=by
 rw [s_l3Now_eq,if_pos (by simp),if_neg (by rw [decide_eq_true_eq]; simp; omega)]
theorem now_at {S:List Int} {p:Nat} {b:Int} (h:p < S.length):s_l3Now ⟨S,p,false⟩ b=some (decide (S[p]=b),⟨S,p,false⟩,()):=by
 rw [s_l3Now_eq]; dsimp only
 rw [if_pos (by simp),if_pos (decide_eq_true (by omega)),if_pos (by omega),getD_nat h]
theorem next_no {r:impl_rexReader} (h:r.s=[]∨r.bad=true):i_rexReader_next r=some (0,false,r,()):=by
 rw [i_rexReader_next_eq]
 by_cases h1:r.s=[]
 ·rw [if_pos (decide_eq_true h1)]
 ·rw [if_neg (by rw [decide_eq_true_eq]; exact h1),if_pos (h.resolve_left h1)]
theorem next_yes {b:Int} {s:List Int}:i_rexReader_next ⟨b :: s,false⟩=some (b,true,⟨b :: s,false⟩,()):=by
 rw [i_rexReader_next_eq,if_neg (by simp),if_neg (by simp),if_pos (by simp)]
 rfl
theorem cut1 (b:Int) (s:List Int):List.take ((b :: s).length - 1) (List.drop 1 (b :: s))=s:=by simp
theorem take_no {r:impl_rexReader} {b:Int} (h:r.s=[]∨r.bad=true):i_rexReader_take r b=some (false,r,()):=by
 rw [i_rexReader_take_eq,next_no h,Option.bind_some,if_pos (by simp)]
theorem take_yes {b:Int} {s:List Int}:i_rexReader_take ⟨b :: s,false⟩ b=some (true,⟨s,false⟩,()):=by
 rw [i_rexReader_take_eq,next_yes,Option.bind_some,if_neg (by simp),if_neg (by simp),if_pos (by simp; omega)]
 dsimp only
 rw [cut1]
theorem take_other {a b:Int} {s:List Int} (h:a ≠ b):i_rexReader_take ⟨a :: s,false⟩ b=some (false,⟨a :: s,false⟩,()):=by
 rw [i_rexReader_take_eq,next_yes,Option.bind_some,if_neg (by simp),if_pos (by simp [h])]
theorem reader_cases (r:impl_rexReader):(r.s=[]∨r.bad=true)∨∃ b s,r=⟨b :: s,false⟩:=by
 obtain ⟨s,bad⟩:=r
 cases s with
 | nil=>exact .inl (.inl rfl)
 | cons b s=>cases bad with
  | true=>exact .inl (.inr rfl)
  | false=>exact .inr ⟨b,s,rfl⟩
def fillN (f:List Bool) (j:Nat):Nat→List Bool
 | 0=>f
 | n+1=>fillN (f.set j true) (j+1) n
theorem fillN_len (n:Nat):∀ (f:List Bool) (j:Nat),(fillN f j n).length=f.length:=by
 induction n with
 | zero=>intro f j; rfl
 | succ n ih=>intro f j; unfold fillN; rw [ih,List.length_set]
theorem fill_s {k hi:Int} (c:spec_l3Cur) (z w:impl_Rex) (hh:hi≤255):∀ (n:Nat) (f:List Bool) (j:Nat),f.length=256→(hi+1 - j).toNat=n→s_l3Set_L7 f k hi j c z w=s_l3Set_L2 (fillN f j n) (w64 (k+1)) c z w:=by
 intro n
 induction n with
 | zero=>intro f j hf hn; rw [s_l3Set_L7_eq,if_neg (by rw [decide_eq_true_eq]; omega)]; rfl
 | succ n ih =>
  intro f j hf hn
  rw [s_l3Set_L7_eq,if_pos (by rw [decide_eq_true_eq]; omega),if_pos (by omega),w64_id (n:=(j:Int)+1) (by omega) (by omega),Int.toNat_natCast]
  exact ih (f.set j true) (j+1) (by rw [List.length_set]; exact hf) (by omega)
theorem fill_i {t:List Int} {k hi:Int} (c:impl_rexReader) (z w:impl_Rex) (hh:hi≤255):∀ (n:Nat) (f:List Bool) (j:Nat),f.length=256→(hi+1 - j).toNat=n→i_rexReader_set_L4 t f k hi j c z w=i_rexReader_set_L1 t (fillN f j n) (w64 (k+1)) c z w:=by
 intro n
 induction n with
 | zero=>intro f j hf hn; rw [i_rexReader_set_L4_eq,if_neg (by rw [decide_eq_true_eq]; omega)]; rfl
 | succ n ih =>
  intro f j hf hn
  rw [i_rexReader_set_L4_eq,if_pos (by rw [decide_eq_true_eq]; omega),if_pos (by omega),w64_id (n:=(j:Int)+1) (by omega) (by omega),Int.toNat_natCast]
  exact ih (f.set j true) (j+1) (by rw [List.length_set]; exact hf) (by omega)
def setRun:Nat→List Int→List Bool→Bool→List Bool × Bool
 | 0,_,f,b=>(f,b)
 | _+1,[],f,b=>(f,b)
 | n+1,lo :: t,f,b=>match t with
  | d :: hi :: u=>if d=45 then setRun n u (fillN f lo.toNat (hi+1 - lo).toNat) (b || decide (hi < lo)) else setRun n t (fillN f lo.toNat (lo+1 - lo).toNat) b
  | _=>setRun n t (fillN f lo.toNat (lo+1 - lo).toNat) b
theorem setRun_len (n:Nat):∀ (l:List Int) (f:List Bool) (b:Bool),(setRun n l f b).1.length=f.length:=by
 induction n with
 | zero=>intro l f b; rfl
 | succ n ih =>
  intro l f b
  match l with
  | []=>rfl
  | [lo]=>show (setRun n [] _ b).1.length=_; rw [ih,fillN_len]
  | [lo,d]=>show (setRun n [d] _ b).1.length=_; rw [ih,fillN_len]
  | lo :: d :: hi :: u =>
   show (if d=45 then _ else _:List Bool × Bool).1.length=_
   split
   ·rw [ih,fillN_len]
   ·rw [ih,fillN_len]
def colN (f:List Bool):Nat→Nat→List Int→List Int
 | _,0,t=>t
 | j,n+1,t=>colN f (j+1) n (if f.getD j false=true then t ++ [w8 j] else t)
theorem col_s (c:spec_l3Cur) (z w:impl_Rex) {f:List Bool} (hf:f.length=256):∀ (n j:Nat) (t:List Int),j+n=256→t.length≤j→s_l3Set_L6 f t j c z w=some (⟨w.Op,w.C,colN f j n t,w.Not,w.Kids⟩,c,()):=by
 intro n
 induction n with
 | zero=>intro j t hj ht; rw [s_l3Set_L6_eq,if_neg (by rw [decide_eq_true_eq]; omega)]; rfl
 | succ n ih =>
  intro j t hj ht
  rw [s_l3Set_L6_eq,if_pos (by rw [decide_eq_true_eq]; omega),if_pos (by omega),w64_id (n:=(j:Int)+1) (by omega) (by omega),Int.toNat_natCast]
  unfold colN
  by_cases c:f.getD j false=true
  ·rw [if_pos c,if_pos c,if_pos (by rw [room_eq]; omega)]
   exact ih (j+1) _ (by omega) (by simp; omega)
  ·rw [if_neg c,if_neg c]
   exact ih (j+1) _ (by omega) (by omega)
theorem col_i (c:impl_rexReader) (z w:impl_Rex) {f:List Bool} (hf:f.length=256):∀ (n j:Nat) (t:List Int),j+n=256→t.length≤j→i_rexReader_set_L3 t f 256 j c z w=some (⟨w.Op,w.C,colN f j n t,w.Not,w.Kids⟩,c,()):=by
 intro n
 induction n with
 | zero=>intro j t hj ht; rw [i_rexReader_set_L3_eq,if_neg (by rw [decide_eq_true_eq]; omega)]; rfl
 | succ n ih =>
  intro j t hj ht
  rw [i_rexReader_set_L3_eq,if_pos (by rw [decide_eq_true_eq]; omega),if_pos (by omega),w64_id (n:=(j:Int)+1) (by omega) (by omega),Int.toNat_natCast]
  unfold colN
  by_cases c:f.getD j false=true
  ·rw [if_pos c,if_pos c,if_pos (by rw [room_eq]; omega)]
   exact ih (j+1) _ (by omega) (by simp; omega)
  ·rw [if_neg c,if_neg c]
   exact ih (j+1) _ (by omega) (by omega)
theorem setRun_step (n:Nat) (lo:Int) (f:List Bool) (b:Bool):∀ (t:List Int),(∀ hi u,t ≠ 45 :: hi :: u)→setRun (n+1) (lo :: t) f b=setRun n t (fillN f lo.toNat (lo+1 - lo).toNat) b
 | [],_=>rfl
 | [_],_=>rfl
 | d :: hi :: u,h=>by
  show (if d=45 then _ else _:List Bool × Bool)=_
  rw [if_neg (fun e=>h hi u (by rw [e]))]
theorem setRun_dash (n:Nat) (lo hi:Int) (u:List Int) (f:List Bool) (b:Bool):setRun (n+1) (lo :: 45 :: hi :: u) f b=setRun n u (fillN f lo.toNat (hi+1 - lo).toNat) (b || decide (hi < lo)):=by
 rw [setRun]
 exact if_pos rfl
theorem setRun_nil (n:Nat) (f:List Bool) (b:Bool):setRun n [] f b=(f,b):=by cases n <;> rfl
def n93 (x:Int):Bool:=!decide (x=93)
def bodyOf (l:List Int):List Int:=l.takeWhile n93
theorem body_nil:bodyOf []=[]:=rfl
theorem body_93 {l:List Int}:bodyOf (93 :: l)=[]:=rfl
theorem body_cons {a:Int} {l:List Int} (h:a ≠ 93):bodyOf (a :: l)=a :: bodyOf l:=List.takeWhile_cons_of_pos (by unfold n93; simp [h])
theorem body_len (l:List Int):(bodyOf l).length≤l.length:=(List.takeWhile_sublist _).length_le
theorem fill_s' {k lo hi:Int} (c:spec_l3Cur) (z w:impl_Rex) (hh:hi≤255) (hl:0≤lo) (f:List Bool) (hf:f.length=256):s_l3Set_L7 f k hi lo c z w=s_l3Set_L2 (fillN f lo.toNat (hi+1 - lo).toNat) (w64 (k+1)) c z w:=by
 have:=fill_s (k:=k) c z w hh _ f lo.toNat hf rfl
 rwa [Int.toNat_of_nonneg hl] at this
theorem fill_i' {t:List Int} {k lo hi:Int} (c:impl_rexReader) (z w:impl_Rex) (hh:hi≤255) (hl:0≤lo) (f:List Bool) (hf:f.length=256):i_rexReader_set_L4 t f k hi lo c z w=i_rexReader_set_L1 t (fillN f lo.toNat (hi+1 - lo).toNat) (w64 (k+1)) c z w:=by
 have:=fill_i (t:=t) (k:=k) c z w hh _ f lo.toNat hf rfl
 rwa [Int.toNat_of_nonneg hl] at this
theorem set_s (z w:impl_Rex) {S:List Int} (hS:S.length≤60) (hB:∀ b∈S,0≤b∧b≤255):∀ (n p:Nat) (f:List Bool) (k:Int) (b:Bool),f.length=256→p≤S.length→(bodyOf (S.drop p)).length≤n→0≤k→k≤p →
  s_l3Set_L2 f k ⟨S,p,b⟩ z w=s_l3Set_L4 (setRun n (bodyOf (S.drop p)) f b).1 ⟨S,(p+(bodyOf (S.drop p)).length:Nat),(decide (S.length≤p+(bodyOf (S.drop p)).length) || (decide (k=0) && decide (bodyOf (S.drop p)=[]))) || (setRun n (bodyOf (S.drop p)) f b).2⟩ z w:=by
 intro n
 induction n with
 | zero =>
  intro p f k b hf hp hn hk hkp
  have hn0:bodyOf (S.drop p)=[]:=List.length_eq_zero_iff.1 (by omega)
  rw [hn0,setRun_nil,s_l3Set_L2_eq]
  simp only [List.length_nil,Nat.add_zero,decide_true,Bool.and_true]
  by_cases h:p < S.length
  ·have h93:S[p]=93:=by
    rw [List.drop_eq_getElem_cons h] at hn0
    apply Classical.byContradiction
    intro hne
    rw [body_cons hne] at hn0
    cases hn0
   rw [if_pos (by rw [decide_eq_true_eq]; omega),if_pos (by omega),getD_nat h,h93,if_neg (by simp),if_neg (by rw [decide_eq_true_eq]; omega)]
   by_cases hk0:k=0
   ·rw [if_pos (decide_eq_true hk0),decide_eq_true hk0]; simp
   ·rw [if_neg (by rw [decide_eq_true_eq]; exact hk0),decide_eq_false hk0,decide_eq_false (p:=S.length≤p) (by omega)]; simp
  ·rw [if_neg (by rw [decide_eq_true_eq]; omega),if_pos (by rw [decide_eq_true_eq]; omega),decide_eq_true (p:=S.length≤p) (by omega)]; simp
 | succ n ih =>
  intro p f k b hf hp hn hk hkp
  by_cases h:p < S.length
  ·by_cases h93:S[p]=93
   ·have hn0:bodyOf (S.drop p)=[]:=by rw [List.drop_eq_getElem_cons h,h93,body_93]
    rw [hn0,setRun_nil,s_l3Set_L2_eq]
    simp only [List.length_nil,Nat.add_zero,decide_true,Bool.and_true]
    rw [if_pos (by rw [decide_eq_true_eq]; omega),if_pos (by omega),getD_nat h,h93,if_neg (by simp),if_neg (by rw [decide_eq_true_eq]; omega)]
    by_cases hk0:k=0
    ·rw [if_pos (decide_eq_true hk0),decide_eq_true hk0]; simp
    ·rw [if_neg (by rw [decide_eq_true_eq]; exact hk0),decide_eq_false hk0,decide_eq_false (p:=S.length≤p) (by omega)]; simp
   ·have hlo:=hB _ (List.getElem_mem h)
    have e0:bodyOf (S.drop p)=S[p] :: bodyOf (S.drop (p+1)):=by rw [List.drop_eq_getElem_cons h,body_cons h93]
    have hstep:∀ (t:List Int) (q:Nat) (f':List Bool) (b':Bool),f'.length=256→q≤S.length→p < q→(bodyOf (S.drop q)).length≤n→p+(bodyOf (S.drop p)).length=q+(bodyOf (S.drop q)).length→setRun (n+1) (bodyOf (S.drop p)) f b=setRun n (bodyOf (S.drop q)) f' b' →
      s_l3Set_L2 f' (w64 (k+1)) ⟨S,q,b'⟩ z w=s_l3Set_L4 (setRun (n+1) (bodyOf (S.drop p)) f b).1 ⟨S,(p+(bodyOf (S.drop p)).length:Nat),(decide (S.length≤p+(bodyOf (S.drop p)).length) || (decide (k=0) && decide (bodyOf (S.drop p)=[]))) || (setRun (n+1) (bodyOf (S.drop p)) f b).2⟩ z w:=by
     intro t q f' b' hf' hq hpq hb he hr
     rw [hr,he,ih q f' _ b' hf' hq hb (by rw [w64_id (by omega) (by omega)]; omega) (by rw [w64_id (by omega) (by omega)]; omega)]
     have z1:decide (w64 (k+1)=0)=false:=by rw [w64_id (by omega) (by omega)]; exact decide_eq_false (by omega)
     have z2:decide (bodyOf (S.drop p)=[])=false:=decide_eq_false (by rw [e0]; exact List.cons_ne_nil _ _)
     rw [z1,z2]; simp
    have hno:s_l3Set_L3 f k (w64 S[p]) (w64 S[p]) ⟨S,(w64 ((p:Int)+1)),b⟩ z w=s_l3Set_L2 (fillN f S[p].toNat (S[p]+1 - S[p]).toNat) (w64 (k+1)) ⟨S,(p+1:Nat),b⟩ z w:=by
     rw [w64_id (n:=S[p]) (by omega) (by omega),s_l3Set_L3_eq,if_neg (by rw [decide_eq_true_eq]; omega),s_l3Set_L5_eq,fill_s' _ z w hlo.2 hlo.1 f hf,w64_id (n:=(p:Int)+1) (by omega) (by omega)]
     rfl
    rw [s_l3Set_L2_eq]; dsimp only
    rw [if_pos (by rw [decide_eq_true_eq]; omega),if_pos (by omega),getD_nat h,if_pos (by simp [h93]),if_pos (by omega)]
    have hl1:p+(bodyOf (S.drop p)).length=p+1+(bodyOf (S.drop (p+1))).length:=by rw [e0]; simp; omega
    have hn1:(bodyOf (S.drop (p+1))).length≤n:=by rw [e0] at hn; simpa using hn
    have hel:(∀ hi u,bodyOf (S.drop (p+1)) ≠ 45 :: hi :: u)→s_l3Set_L3 f k (w64 S[p]) (w64 S[p]) ⟨S,(w64 ((p:Int)+1)),b⟩ z w=s_l3Set_L4 (setRun (n+1) (bodyOf (S.drop p)) f b).1 ⟨S,(p+(bodyOf (S.drop p)).length:Nat),(decide (S.length≤p+(bodyOf (S.drop p)).length) || (decide (k=0) && decide (bodyOf (S.drop p)=[]))) || (setRun (n+1) (bodyOf (S.drop p)) f b).2⟩ z w:=fun hne=>by
     rw [hno]
     exact hstep [] (p+1) _ b (by rw [fillN_len]; exact hf) (by omega) (by omega) hn1 hl1 (by rw [e0]; exact setRun_step n _ f b _ hne)
    have w2:w64 (w64 ((p:Int)+1)+1)=((p+2:Nat):Int):=by rw [w64_id (n:=(p:Int)+1) (by omega) (by omega),w64_id (by omega) (by omega)]; omega
    have w1:w64 ((p:Int)+1)=((p+1:Nat):Int):=by rw [w64_id (n:=(p:Int)+1) (by omega) (by omega)]; omega
    by_cases h2:p+2 < S.length
    ·have h1:p+1 < S.length:=by omega
     rw [w2,if_pos (by rw [decide_eq_true_eq]; omega),if_pos (by rw [w1]; omega)]
     have g1:List.getD S (w64 ((p:Int)+1)).toNat 0=S[p+1]:=by rw [w1,getD_nat h1]
     have g2:List.getD S ((p+2:Nat):Int).toNat 0=S[p+2]:=getD_nat h2 0
     rw [g1,g2]
     by_cases c1:S[p+1]=45
     ·rw [if_pos (decide_eq_true c1),if_pos (by omega)]
      by_cases c2:S[p+2]=93
      ·rw [if_neg (by simp [c2])]
       refine hel fun hi u hu=>?_
       rw [List.drop_eq_getElem_cons h1,c1,body_cons (by decide),List.drop_eq_getElem_cons h2,c2,body_93] at hu
       cases hu
      ·have hhi:=hB _ (List.getElem_mem h2)
       rw [if_pos (by simp [c2]),if_pos (by omega)]
       have e1:bodyOf (S.drop (p+1))=45 :: S[p+2] :: bodyOf (S.drop (p+3)):=by
        rw [List.drop_eq_getElem_cons h1,c1,body_cons (by decide),List.drop_eq_getElem_cons h2,body_cons c2]
       have w3:w64 (w64 ((p:Int)+1)+2)=((p+3:Nat):Int):=by rw [w1,w64_id (by omega) (by omega)]; omega
       rw [w3,w64_id (n:=S[p]) (by omega) (by omega),w64_id (n:=S[p+2]) (by omega) (by omega),s_l3Set_L3_eq]
       have hfin:∀ b',b'=(b || decide (S[p+2] < S[p]))→s_l3Set_L5 f k S[p] S[p+2] ⟨S,((p+3:Nat):Int),b'⟩ z w=s_l3Set_L4 (setRun (n+1) (bodyOf (S.drop p)) f b).1 ⟨S,(p+(bodyOf (S.drop p)).length:Nat),(decide (S.length≤p+(bodyOf (S.drop p)).length) || (decide (k=0) && decide (bodyOf (S.drop p)=[]))) || (setRun (n+1) (bodyOf (S.drop p)) f b).2⟩ z w:=fun b' hb'=>by
        rw [s_l3Set_L5_eq,fill_s' _ z w hhi.2 hlo.1 f hf]
        refine hstep [] (p+3) _ b' (by rw [fillN_len]; exact hf) (by omega) (by omega) (by rw [e1] at hn1; simp at hn1; omega) (by rw [hl1,e1]; simp; omega) ?_
        rw [e0,e1,setRun_dash,hb']
       by_cases c3:S[p+2] < S[p]
       ·rw [if_pos (decide_eq_true c3)]; exact hfin true (by rw [decide_eq_true c3,Bool.or_true])
       ·rw [if_neg (by rw [decide_eq_true_eq]; exact c3)]; exact hfin b (by rw [decide_eq_false c3,Bool.or_false])
     ·rw [if_neg (by rw [decide_eq_true_eq]; exact c1)]
      refine hel fun hi u hu=>?_
      rw [List.drop_eq_getElem_cons h1] at hu
      by_cases c9:S[p+1]=93
      ·rw [c9,body_93] at hu; cases hu
      ·rw [body_cons c9] at hu; exact c1 (List.cons.inj hu).1
    ·rw [w2,if_neg (by rw [decide_eq_true_eq]; omega)]
     refine hel fun hi u hu=>?_
     have:=body_len (S.drop (p+1))
     rw [hu,List.length_drop] at this
     simp at this
     omega
  ·have hd:S.drop p=[]:=List.drop_eq_nil_of_le (by omega)
   rw [hd,body_nil,setRun_nil,s_l3Set_L2_eq]
   simp only [List.length_nil,Nat.add_zero,decide_true,Bool.and_true]
   rw [if_neg (by rw [decide_eq_true_eq]; omega),if_pos (by rw [decide_eq_true_eq]; omega),decide_eq_true (p:=S.length≤p) (by omega)]; simp
theorem set_i (z w:impl_Rex) {s t:List Int} (ht:t.length≤60) (hB:∀ b∈t,0≤b∧b≤255):∀ (n i:Nat) (f:List Bool) (b:Bool),f.length=256→i≤t.length→(t.drop i).length≤n →
  i_rexReader_set_L1 t f i ⟨s,b⟩ z w=i_rexReader_set_L3 [] (setRun n (t.drop i) f b).1 256 0 ⟨s,(setRun n (t.drop i) f b).2⟩ z w:=by
 intro n
 induction n with
 | zero =>
  intro i f b hf hi hn
  have hd:t.drop i=[]:=List.length_eq_zero_iff.1 (by omega)
  rw [List.length_drop] at hn
  rw [hd,setRun_nil,i_rexReader_set_L1_eq,if_neg (by rw [decide_eq_true_eq]; omega),hf]
  rfl
 | succ n ih =>
  intro i f b hf hi hn
  rw [List.length_drop] at hn
  by_cases h:i < t.length
  ·have hlo:=hB _ (List.getElem_mem h)
   rw [i_rexReader_set_L1_eq,if_pos (by rw [decide_eq_true_eq]; omega),if_pos (by omega),if_pos (by omega),getD_nat h]
   have e0:t.drop i=t[i] :: t.drop (i+1):=List.drop_eq_getElem_cons h
   have hel:(∀ hi u,t.drop (i+1) ≠ 45 :: hi :: u)→i_rexReader_set_L2 t f i (w64 t[i]) (w64 t[i]) ⟨s,b⟩ z w=i_rexReader_set_L3 [] (setRun (n+1) (t.drop i) f b).1 256 0 ⟨s,(setRun (n+1) (t.drop i) f b).2⟩ z w:=fun hne=>by
    rw [i_rexReader_set_L2_eq,w64_id (n:=t[i]) (by omega) (by omega),fill_i' _ z w hlo.2 hlo.1 f hf,e0,setRun_step n _ f b _ hne,w64_succ h (by omega)]
    exact ih (i+1) _ b (by rw [fillN_len]; exact hf) (by omega) (by rw [List.length_drop]; omega)
   have w1:w64 ((i:Int)+1)=((i+1:Nat):Int):=w64_succ h (by omega)
   have w2:w64 ((i:Int)+2)=((i+2:Nat):Int):=by rw [w64_id (by omega) (by omega)]; omega
   by_cases h2:i+2 < t.length
   ·have h1:i+1 < t.length:=by omega
    rw [w2,if_pos (by rw [decide_eq_true_eq]; omega),w1,if_pos (by omega),getD_nat h1]
    by_cases c1:t[i+1]=45
    ·have hhi:=hB _ (List.getElem_mem h2)
     rw [if_pos (decide_eq_true c1),if_pos (by omega),getD_nat h2,w64_id (n:=t[i]) (by omega) (by omega),w64_id (n:=t[i+2]) (by omega) (by omega)]
     have e1:t.drop (i+1)=45 :: t[i+2] :: t.drop (i+3):=by rw [List.drop_eq_getElem_cons h1,c1,List.drop_eq_getElem_cons h2]
     have hfin:∀ b',b'=(b || decide (t[i+2] < t[i]))→i_rexReader_set_L2 t f ((i+2:Nat):Int) t[i] t[i+2] ⟨s,b'⟩ z w=i_rexReader_set_L3 [] (setRun (n+1) (t.drop i) f b).1 256 0 ⟨s,(setRun (n+1) (t.drop i) f b).2⟩ z w:=fun b' hb'=>by
      rw [i_rexReader_set_L2_eq,fill_i' _ z w hhi.2 hlo.1 f hf,e0,e1,setRun_dash,hb',w64_succ h2 (by omega)]
      exact ih (i+3) _ _ (by rw [fillN_len]; exact hf) (by omega) (by rw [List.length_drop]; omega)
     cases b with
     | true=>rw [if_pos rfl]; exact hfin true (by simp)
     | false=>rw [if_neg (by simp)]; exact hfin _ (by simp)
    ·rw [if_neg (by rw [decide_eq_true_eq]; exact c1)]
     refine hel fun hi' u hu=>c1 ?_
     rw [List.drop_eq_getElem_cons h1] at hu
     exact (List.cons.inj hu).1
   ·rw [w2,if_neg (by rw [decide_eq_true_eq]; omega)]
    refine hel fun hi' u hu=>?_
    have:=congrArg List.length hu
    rw [List.length_drop] at this
    simp at this
    omega
  ·have hd:t.drop i=[]:=List.drop_eq_nil_of_le (by omega)
   rw [hd,setRun_nil,i_rexReader_set_L1_eq,if_neg (by rw [decide_eq_true_eq]; omega),hf]
   rfl
theorem idx_body:∀ l:List Int,(idxI l 93 = -1∧bodyOf l=l)∨(idxI l 93=(bodyOf l).length∧(bodyOf l).length < l.length)
 | []=>.inl ⟨rfl,rfl⟩
 | b :: l=>by
  by_cases h:b=93
  ·subst h
   refine .inr ⟨?_,?_⟩
   ·rw [idxI,if_pos rfl,body_93]; rfl
   ·rw [body_93]; simp
  ·rw [idxI,if_neg h,body_cons h]
   rcases idx_body l with ⟨e1,e2⟩ | ⟨e1,e2⟩
   ·rw [if_pos e1,e2]; exact .inl ⟨rfl,rfl⟩
   ·rw [if_neg (by omega),e1]; refine .inr ⟨by simp,by simp; omega⟩
theorem body_take:∀ l:List Int,l.take (bodyOf l).length=bodyOf l
 | []=>rfl
 | b :: l=>by
  by_cases h:b=93
  ·subst h; rw [body_93]; rfl
  ·rw [body_cons h,List.length_cons,List.take_succ_cons,body_take l]
def setRes (u:List Int) (nt:Bool):impl_Rex × impl_rexReader :=
 if (bodyOf u).length=u.length∨bodyOf u=[] then (⟨0,0,[],false,[]⟩,⟨u,true⟩)
 else (⟨3,0,colN (setRun (bodyOf u).length (bodyOf u) (List.replicate 256 false) false).1 0 256 [],nt,[]⟩,⟨u.drop ((bodyOf u).length+1),(setRun (bodyOf u).length (bodyOf u) (List.replicate 256 false) false).2⟩)
theorem i_set_behind (u:List Int) (nt:Bool) (hu:u.length≤60) (hb:∀ b∈u,0≤b∧b≤255) (s:List Int) (ht:i_rexReader_take ⟨s,false⟩ 94=some (nt,⟨u,false⟩,())) :
  i_rexReader_set ⟨s,false⟩=some ((setRes u nt).1,(setRes u nt).2,()):=by
 rw [i_rexReader_set_eq,ht,Option.bind_some]
 dsimp only
 rw [x_strings_IndexByte_eq,x_internal_stringslite_IndexByte_eq,x_internal_bytealg_IndexByteString_eq,Option.bind_some,Option.bind_some,Option.bind_some]
 dsimp only
 unfold setRes
 rcases idx_body u with ⟨e1,e2⟩ | ⟨e1,e2⟩
 ·rw [e1,e2,if_pos (by decide),if_pos (.inl rfl)]
 ·by_cases h0:bodyOf u=[]
  ·rw [e1,h0,if_pos (by simp),if_pos (.inr rfl)]
  ·have hl:0 < (bodyOf u).length:=List.length_pos_iff.2 h0
   have w1:w64 (((bodyOf u).length:Int)+1)=(((bodyOf u).length+1:Nat):Int):=by rw [w64_id (by omega) (by omega)]; omega
   rw [e1,if_neg (by rw [decide_eq_true_eq]; omega),if_pos (by omega),w1,if_pos (by omega),if_neg (fun h=>h.elim (by omega) h0)]
   dsimp only
   rw [Int.toNat_natCast,Int.toNat_natCast,Nat.sub_zero,List.drop_zero,body_take,List.take_of_length_le (by simp)]
   have hi:=set_i (s:=u.drop ((bodyOf u).length+1)) (z_impl_Rex) ⟨3,0,[],nt,[]⟩ (t:=bodyOf u) (by omega) (fun b hx=>hb b ((List.takeWhile_sublist _).subset hx)) (bodyOf u).length 0 (List.replicate 256 false) false List.length_replicate (by omega) (by rw [List.drop_zero]; exact Nat.le_refl _)
   rw [List.drop_zero] at hi
   exact hi.trans (col_i _ _ _ (by rw [setRun_len]; exact List.length_replicate) 256 0 [] rfl (Nat.zero_le _))
theorem take_94 (s:List Int):∃ nt,∃ k:Nat,i_rexReader_take ⟨s,false⟩ 94=some (nt,⟨s.drop k,false⟩,())∧((nt=true∧k=1∧∃ u,s=94 :: u)∨(nt=false∧k=0∧∀ u,s ≠ 94 :: u)):=by
 cases s with
 | nil=>exact ⟨false,0,take_no (.inl rfl),.inr ⟨rfl,rfl,fun u h=>by cases h⟩⟩
 | cons b u =>
  by_cases h:b=94
  ·subst h; exact ⟨true,1,take_yes,.inl ⟨rfl,rfl,u,rfl⟩⟩
  ·exact ⟨false,0,take_other h,.inr ⟨rfl,rfl,fun v hv=>h (List.cons.inj hv).1⟩⟩
theorem setRes_suf (u:List Int) (nt:Bool):(setRes u nt).2.s <:+ u∧(setRes u nt).1.Kids=[]:=by
 unfold setRes
 split
 ·exact ⟨List.suffix_refl _,rfl⟩
 ·exact ⟨List.drop_suffix _ _,rfl⟩
def By (s:List Int):Prop:=s.length≤60∧∀ b∈s,0≤b∧b≤255
theorem By.suf {s t:List Int} (h:By s) (ht:t <:+ s):By t:=⟨Nat.le_trans ht.length_le h.1,fun b hb=>h.2 b (ht.subset hb)⟩
theorem i_set_tot (s:List Int) (h:By s):∃ y r,i_rexReader_set ⟨s,false⟩=some (y,r,())∧r.s <:+ s∧Small y:=by
 obtain ⟨nt,k,e,_⟩:=take_94 s
 have hu:By (s.drop k):=h.suf (List.drop_suffix _ _)
 have hr:=setRes_suf (s.drop k) nt
 exact ⟨_,_,i_set_behind _ nt hu.1 hu.2 s e,hr.1.trans (List.drop_suffix _ _),small_leaf hr.2⟩
def TotP (F:impl_rexReader→Option (impl_Rex × impl_rexReader × Unit)) (s:List Int) (b:Bool) (k:Nat):Prop :=
 ∃ y r,F ⟨s,b⟩=some (y,r,())∧r.s <:+ s∧r.s.length+k≤s.length∧(b=true→r.bad=true)∧Small y
theorem drop1 {b:Int} {s:List Int}:(⟨List.take ((b :: s).length - 1) (List.drop 1 (b :: s)),false⟩:impl_rexReader)=⟨s,false⟩:=by rw [cut1]
theorem suf_cons {b:Int} {s t:List Int} (h:t <:+ s):t <:+ b :: s:=h.trans (List.suffix_cons b s)
theorem i_atom_tot (b:Int) (s:List Int) (h:By (b :: s)) (hp:TotP i_rexReader_pattern s false 0):TotP i_rexReader_atom (b :: s) false 1:=by
 have hs:By s:=h.suf (List.suffix_cons b s)
 unfold TotP
 rw [i_rexReader_atom_eq,next_yes,Option.bind_some]
 dsimp only
 rw [if_pos (by simp; omega),drop1]
 have leaf:∀ (x:impl_Rex) (bad:Bool),x.Kids=[]→∃ y r,some (x,(⟨s,bad⟩:impl_rexReader),())=some (y,r,())∧r.s <:+ b :: s∧r.s.length+1≤(b :: s).length∧(false=true→r.bad=true)∧Small y :=
  fun x bad hx=>⟨_,_,rfl,List.suffix_cons b s,by simp,(fun h=>by cases h),small_leaf hx⟩
 by_cases c1:b=40
 ·rw [if_pos (decide_eq_true c1)]
  obtain ⟨y,r,e,e1,e2,e3,e4⟩:=hp
  rw [e,Option.bind_some]
  dsimp only
  rcases reader_cases r with hr | ⟨a,t,hr⟩
  ·rw [take_no hr,Option.bind_some]; dsimp only
   rw [if_pos (by simp)]
   exact ⟨_,_,rfl,suf_cons e1,by simp; omega,(fun h=>by cases h),e4⟩
  ·subst hr
   by_cases ha:a=41
   ·subst ha
    rw [take_yes,Option.bind_some]; dsimp only
    rw [if_neg (by simp)]
    refine ⟨_,_,rfl,suf_cons ((List.suffix_cons 41 t).trans e1),?_,(fun h=>by cases h),e4⟩
    simp at e2 ⊢; omega
   ·rw [take_other ha,Option.bind_some]; dsimp only
    rw [if_pos (by simp)]
    refine ⟨_,_,rfl,suf_cons e1,?_,(fun h=>by cases h),e4⟩
    simp at e2 ⊢; omega
 rw [if_neg (by rw [decide_eq_true_eq]; exact c1)]
 by_cases c2:b=46
 ·rw [if_pos (decide_eq_true c2)]; exact leaf _ _ rfl
 rw [if_neg (by rw [decide_eq_true_eq]; exact c2)]
 by_cases c3:b=94
 ·rw [if_pos (decide_eq_true c3)]; exact leaf _ _ rfl
 rw [if_neg (by rw [decide_eq_true_eq]; exact c3)]
 by_cases c4:b=36
 ·rw [if_pos (decide_eq_true c4)]; exact leaf _ _ rfl
 rw [if_neg (by rw [decide_eq_true_eq]; exact c4)]
 by_cases c5:b=91
 ·rw [if_pos (decide_eq_true c5)]
  obtain ⟨y,r,e,e1,e2⟩:=i_set_tot s hs
  rw [e,Option.bind_some]
  exact ⟨_,_,rfl,suf_cons e1,by have:=e1.length_le; simp; omega,(fun h=>by cases h),e2⟩
 rw [if_neg (by rw [decide_eq_true_eq]; exact c5)]
 by_cases c6:b=92
 ·rw [if_pos (decide_eq_true c6)]
  cases s with
  | nil=>rw [next_no (.inl rfl),Option.bind_some]; dsimp only; rw [if_pos (by simp)]; exact leaf _ _ rfl
  | cons a t =>
   rw [next_yes,Option.bind_some]; dsimp only
   rw [if_neg (by simp),if_pos (by simp; omega),cut1]
   exact ⟨_,_,rfl,suf_cons (List.suffix_cons a t),by simp,(fun h=>by cases h),small_leaf rfl⟩
 rw [if_neg (by rw [decide_eq_true_eq]; exact c6)]
 have l1:∀ (t:Bool),∃ y r,i_rexReader_atom_L1 b t ⟨s,false⟩ z_impl_Rex=some (y,r,())∧r.s <:+ b :: s∧r.s.length+1≤(b :: s).length∧(false=true→r.bad=true)∧Small y:=fun t=>by
  rw [i_rexReader_atom_L1_eq]
  cases t with
  | true=>rw [if_pos rfl]; exact leaf _ _ rfl
  | false=>rw [if_neg (by simp)]; exact leaf _ _ rfl
 by_cases c7:b=42
 ·rw [if_pos (decide_eq_true c7)]; exact l1 _
 rw [if_neg (by rw [decide_eq_true_eq]; exact c7)]
 by_cases c8:b=43
 ·rw [if_pos (decide_eq_true c8)]; exact l1 _
 rw [if_neg (by rw [decide_eq_true_eq]; exact c8)]
 exact l1 _
theorem repeat_val (b:Int):∃ v,i_repeatOf b=some (v,())∧((v=8∧b=42)∨(v=9∧b=43)∨(v=10∧b=63)∨(v=0∧b ≠ 42∧b ≠ 43∧b ≠ 63)):=by
 rw [i_repeatOf_eq]
 by_cases c1:b=42
 ·rw [if_pos (decide_eq_true c1)]; exact ⟨_,rfl,.inl ⟨rfl,c1⟩⟩
 rw [if_neg (by rw [decide_eq_true_eq]; exact c1)]
 by_cases c2:b=43
 ·rw [if_pos (decide_eq_true c2)]; exact ⟨_,rfl,.inr (.inl ⟨rfl,c2⟩)⟩
 rw [if_neg (by rw [decide_eq_true_eq]; exact c2)]
 by_cases c3:b=63
 ·rw [if_pos (decide_eq_true c3)]; exact ⟨_,rfl,.inr (.inr (.inl ⟨rfl,c3⟩))⟩
 rw [if_neg (by rw [decide_eq_true_eq]; exact c3)]; exact ⟨_,rfl,.inr (.inr (.inr ⟨rfl,c1,c2,c3⟩))⟩
theorem small_one {x:impl_Rex} (op:Int) (h:Small x):Small ⟨op,0,[],false,[x]⟩:=.mk _ (by simp) fun k hk=>by rw [List.mem_singleton.1 hk]; exact h
theorem i_piece_L1_tot (z:impl_Rex):∀ (n:Nat) (r:impl_rexReader) (x:impl_Rex),r.s.length≤n→Small x→∃ y r',i_rexReader_piece_L1 r z x=some (y,r',())∧r'.s <:+ r.s∧(r.bad=true→r'.bad=true)∧Small y:=by
 intro n
 induction n with
 | zero =>
  intro r x hn hx
  rw [i_rexReader_piece_L1_eq,next_no (.inl (List.length_eq_zero_iff.1 (by omega))),Option.bind_some]
  dsimp only
  rw [if_pos (by simp)]
  exact ⟨_,_,rfl,List.suffix_refl _,fun h=>h,hx⟩
 | succ n ih =>
  intro r x hn hx
  rw [i_rexReader_piece_L1_eq]
  rcases reader_cases r with hr | ⟨b,s,rfl⟩
  ·rw [next_no hr,Option.bind_some]
   dsimp only
   rw [if_pos (by simp)]
   exact ⟨_,_,rfl,List.suffix_refl _,fun h=>h,hx⟩
  ·obtain ⟨v,e,hv⟩:=repeat_val b
   rw [next_yes,Option.bind_some]
   dsimp only
   rw [if_neg (by simp),e,Option.bind_some]
   dsimp only
   by_cases c:v=0
   ·rw [if_pos (decide_eq_true c)]; exact ⟨_,_,rfl,List.suffix_refl _,fun h=>h,hx⟩
   ·rw [if_neg (by rw [decide_eq_true_eq]; exact c),if_pos (by simp; omega),Option.bind_some]
    dsimp only
    rw [drop1]
    obtain ⟨y,r',e1,e2,e3,e4⟩:=ih ⟨s,false⟩ _ (by simp at hn ⊢; omega) (small_one v hx)
    exact ⟨y,r',e1,suf_cons e2,(fun h=>by cases h),e4⟩
theorem i_piece_L1_tot' (z:impl_Rex):∀ (n:Nat) (r:impl_rexReader) (x:impl_Rex),r.s.length≤n→∃ y r',i_rexReader_piece_L1 r z x=some (y,r',())∧r'.s <:+ r.s∧(r.bad=true→r'.bad=true):=by
 intro n
 induction n with
 | zero =>
  intro r x hn
  rw [i_rexReader_piece_L1_eq,next_no (.inl (List.length_eq_zero_iff.1 (by omega))),Option.bind_some]
  dsimp only
  rw [if_pos (by simp)]
  exact ⟨_,_,rfl,List.suffix_refl _,fun h=>h⟩
 | succ n ih =>
  intro r x hn
  rw [i_rexReader_piece_L1_eq]
  rcases reader_cases r with hr | ⟨b,s,rfl⟩
  ·rw [next_no hr,Option.bind_some]
   dsimp only
   rw [if_pos (by simp)]
   exact ⟨_,_,rfl,List.suffix_refl _,fun h=>h⟩
  ·obtain ⟨v,e,hv⟩:=repeat_val b
   rw [next_yes,Option.bind_some]
   dsimp only
   rw [if_neg (by simp),e,Option.bind_some]
   dsimp only
   by_cases c:v=0
   ·rw [if_pos (decide_eq_true c)]; exact ⟨_,_,rfl,List.suffix_refl _,fun h=>h⟩
   ·rw [if_neg (by rw [decide_eq_true_eq]; exact c),if_pos (by simp; omega),Option.bind_some]
    dsimp only
    rw [drop1]
    obtain ⟨y,r',e1,e2,e3⟩:=ih ⟨s,false⟩ _ (by simp at hn ⊢; omega)
    exact ⟨y,r',e1,suf_cons e2,(fun h=>by cases h)⟩
theorem i_piece_tot (b:Int) (s:List Int) (h:TotP i_rexReader_atom (b :: s) false 1):TotP i_rexReader_piece (b :: s) false 1:=by
 obtain ⟨y,r,e,e1,e2,e3,e4⟩:=h
 unfold TotP
 rw [i_rexReader_piece_eq,e,Option.bind_some]
 obtain ⟨y',r',f1,f2,f3,f4⟩:=i_piece_L1_tot z_impl_Rex _ r y (Nat.le_refl _) e4
 exact ⟨y',r',f1,f2.trans e1,by have:=f2.length_le; omega,(fun h=>by cases h),f4⟩
theorem small_many {l:List impl_Rex} (op:Int) (hl:l.length≤100) (h:∀ x∈l,Small x):Small ⟨op,0,[],false,l⟩:=.mk _ hl h
def partEnd (l:List impl_Rex):impl_Rex:=if l.length=0 then ⟨11,0,[],false,[]⟩ else if l.length=1 then l.getD 0 z_impl_Rex else ⟨6,0,[],false,l⟩
def patEnd (l:List impl_Rex):impl_Rex:=if l.length=1 then l.getD 0 z_impl_Rex else ⟨7,0,[],false,l⟩
theorem partEnd_eq {α:Type} (l:List impl_Rex) (r:α) :
  (if (decide ((List.length l:Int)=0))=true then some ((impl_Rex.mk 11 0 [] false []),r,()) else
   if (decide ((List.length l:Int)=1))=true then if (0:Int)≤0∧(0:Int) < (List.length l:Int) then some ((List.getD l 0 z_impl_Rex),r,()) else none
   else some ((impl_Rex.mk 6 0 [] false l),r,()))=some (partEnd l,r,()):=by
 unfold partEnd
 by_cases c:l.length=0
 ·rw [if_pos (decide_eq_true (by omega)),if_pos c]
 ·rw [if_neg (by rw [decide_eq_true_eq]; omega),if_neg c]
  by_cases d:l.length=1
  ·rw [if_pos (decide_eq_true (by omega)),if_pos (by omega),if_pos d]
  ·rw [if_neg (by rw [decide_eq_true_eq]; omega),if_neg d]
theorem patEnd_eq {α:Type} (l:List impl_Rex) (r:α) :
  (if (decide ((List.length l:Int)=1))=true then if (0:Int)≤0∧(0:Int) < (List.length l:Int) then some ((List.getD l 0 z_impl_Rex),r,()) else none
   else some ((impl_Rex.mk 7 0 [] false l),r,()))=some (patEnd l,r,()):=by
 unfold patEnd
 by_cases d:l.length=1
 ·rw [if_pos (decide_eq_true (by omega)),if_pos (by omega),if_pos d]
 ·rw [if_neg (by rw [decide_eq_true_eq]; omega),if_neg d]
theorem getD_small {l:List impl_Rex} (h:∀ x∈l,Small x) (hl:l.length=1):Small (l.getD 0 z_impl_Rex):=by
 match l,hl with
 | [x],_=>exact h x (List.mem_singleton.2 rfl)
theorem partEnd_small {l:List impl_Rex} (hl:l.length≤100) (h:∀ x∈l,Small x):Small (partEnd l):=by
 unfold partEnd
 split
 ·exact small_leaf rfl
 ·split
  ·exact getD_small h ‹_›
  ·exact small_many 6 hl h
theorem patEnd_small {l:List impl_Rex} (hl:l.length≤100) (h:∀ x∈l,Small x):Small (patEnd l):=by
 unfold patEnd
 split
 ·exact getD_small h ‹_›
 ·exact small_many 7 hl h
theorem small_app {l:List impl_Rex} {x:impl_Rex} (h:∀ y∈l,Small y) (hx:Small x):∀ y∈List.append l [x],Small y:=by
 intro y hy
 rcases List.mem_append.1 hy with hy | hy
 ·exact h y hy
 ·rw [List.mem_singleton.1 hy]; exact hx
theorem i_part_L1_tot (z:impl_Rex) (N:Nat) (hp:∀ b s,(b :: s).length≤N→By (b :: s)→TotP i_rexReader_piece (b :: s) false 1):∀ (n:Nat) (r:impl_rexReader) (l:List impl_Rex),r.s.length≤n→n≤N→By r.s→l.length+n≤60→(∀ x∈l,Small x) →
  ∃ y r',i_rexReader_part_L1 l r z=some (y,r',())∧r'.s <:+ r.s∧(r.bad=true→r'.bad=true)∧Small y:=by
 intro n
 induction n with
 | zero =>
  intro r l hn hN hb hl hx
  rw [i_rexReader_part_L1_eq,next_no (.inl (List.length_eq_zero_iff.1 (by omega))),Option.bind_some]
  dsimp only
  rw [if_pos (by simp),partEnd_eq]
  exact ⟨_,_,rfl,List.suffix_refl _,fun h=>h,partEnd_small (by omega) hx⟩
 | succ n ih =>
  intro r l hn hN hb hl hx
  rw [i_rexReader_part_L1_eq]
  have stop:∃ y r',some (partEnd l,r,())=some (y,r',())∧r'.s <:+ r.s∧(r.bad=true→r'.bad=true)∧Small y:=⟨_,_,rfl,List.suffix_refl _,fun h=>h,partEnd_small (by omega) hx⟩
  rcases reader_cases r with hr | ⟨b,s,rfl⟩
  ·rw [next_no hr,Option.bind_some]
   dsimp only
   rw [if_pos (by simp),partEnd_eq]
   exact stop
  ·rw [next_yes,Option.bind_some]
   dsimp only
   rw [if_neg (by simp)]
   by_cases c1:b=124
   ·rw [if_pos (decide_eq_true c1),partEnd_eq]; exact stop
   rw [if_neg (by rw [decide_eq_true_eq]; exact c1)]
   by_cases c2:b=41
   ·rw [if_pos (decide_eq_true c2),partEnd_eq]; exact stop
   rw [if_neg (by rw [decide_eq_true_eq]; exact c2)]
   obtain ⟨y,r,e,e1,e2,e3,e4⟩:=hp b s (by have:(b :: s).length≤n+1:=hn; omega) hb
   rw [e,Option.bind_some]
   dsimp only
   rw [if_pos (by rw [room_eq]; omega)]
   have h2:r.s.length≤n:=by simp only [List.length_cons] at e2 hn; omega
   obtain ⟨y',r',f1,f2,f3,f4⟩:=ih r _ h2 (by omega) (hb.suf e1) (by show (l ++ [y]).length+n≤60; simp; omega) (small_app hx e4)
   exact ⟨y',r',f1,f2.trans e1,(fun h=>by cases h),f4⟩
theorem i_pat_L1_tot (z:impl_Rex) (N:Nat) (hp:∀ s b,s.length≤N→By s→TotP i_rexReader_part s b 0):∀ (n:Nat) (r:impl_rexReader) (l:List impl_Rex),r.s.length≤n→n≤N→By r.s→l.length+n≤61→(∀ x∈l,Small x) →
  ∃ y r',i_rexReader_pattern_L1 l r z=some (y,r',())∧r'.s <:+ r.s∧(r.bad=true→r'.bad=true)∧Small y:=by
 intro n
 induction n with
 | zero =>
  intro r l hn hN hb hl hx
  rw [i_rexReader_pattern_L1_eq,take_no (.inl (List.length_eq_zero_iff.1 (by omega))),Option.bind_some]
  dsimp only
  rw [if_neg (by simp),patEnd_eq]
  exact ⟨_,_,rfl,List.suffix_refl _,fun h=>h,patEnd_small (by omega) hx⟩
 | succ n ih =>
  intro r l hn hN hb hl hx
  rw [i_rexReader_pattern_L1_eq]
  have stop:∃ y r',some (patEnd l,r,())=some (y,r',())∧r'.s <:+ r.s∧(r.bad=true→r'.bad=true)∧Small y:=⟨_,_,rfl,List.suffix_refl _,fun h=>h,patEnd_small (by omega) hx⟩
  rcases reader_cases r with hr | ⟨b,s,rfl⟩
  ·rw [take_no hr,Option.bind_some]
   dsimp only
   rw [if_neg (by simp),patEnd_eq]
   exact stop
  ·by_cases c1:b=124
   ·subst c1
    rw [take_yes,Option.bind_some]
    dsimp only
    have hbs:By s:=hb.suf (List.suffix_cons _ _)
    have hn':s.length≤n:=by simp only [List.length_cons] at hn; omega
    obtain ⟨y,r,e,e1,e2,e3,e4⟩:=hp s false (by omega) hbs
    rw [if_pos rfl,e,Option.bind_some]
    dsimp only
    rw [if_pos (by rw [room_eq]; omega)]
    obtain ⟨y',r',f1,f2,f3,f4⟩:=ih r _ (by omega) (by omega) (hbs.suf e1) (by show (l ++ [y]).length+n≤61; simp; omega) (small_app hx e4)
    exact ⟨y',r',f1,suf_cons (f2.trans e1),(fun h=>by cases h),f4⟩
   ·rw [take_other c1,Option.bind_some]
    dsimp only
    rw [if_neg (by simp),patEnd_eq]
    exact stop
theorem i_tot:∀ (n:Nat) (s:List Int) (b:Bool),s.length≤n→By s→TotP i_rexReader_pattern s b 0:=by
 intro n
 induction n with
 | zero =>
  intro s b hn hs
  have hpart:∀ s b,s.length≤0→By s→TotP i_rexReader_part s b 0:=fun s b h hs=>by
   unfold TotP
   rw [i_rexReader_part_eq]
   obtain ⟨y,r',f1,f2,f3,f4⟩:=i_part_L1_tot z_impl_Rex 0 (fun b s h=>by simp at h) 0 ⟨s,b⟩ [] h (Nat.le_refl _) hs (by simp) (fun x hx=>by cases hx)
   exact ⟨y,r',f1,f2,f2.length_le,f3,f4⟩
  unfold TotP
  obtain ⟨y,r,e,e1,e2,e3,e4⟩:=hpart s b hn hs
  rw [i_rexReader_pattern_eq,e,Option.bind_some]
  obtain ⟨y',r',f1,f2,f3,f4⟩:=i_pat_L1_tot z_impl_Rex 0 hpart 0 r [y] (by have:=e1.length_le; omega) (Nat.le_refl _) (hs.suf e1) (by simp) (fun x hx=>by rw [List.mem_singleton.1 hx]; exact e4)
  exact ⟨y',r',f1,f2.trans e1,by have:=(f2.trans e1).length_le; omega,fun h=>f3 (e3 h),f4⟩
 | succ n ih =>
  intro s b hn hs
  have hpiece:∀ b s,(b :: s).length≤n+1→By (b :: s)→TotP i_rexReader_piece (b :: s) false 1:=fun b s h hs =>
   i_piece_tot b s (i_atom_tot b s hs (ih s false (by simpa using h) (hs.suf (List.suffix_cons _ _))))
  have hpart:∀ s b,s.length≤n+1→By s→TotP i_rexReader_part s b 0:=fun s b h hs=>by
   unfold TotP
   rw [i_rexReader_part_eq]
   obtain ⟨y,r',f1,f2,f3,f4⟩:=i_part_L1_tot z_impl_Rex (n+1) hpiece s.length ⟨s,b⟩ [] (Nat.le_refl _) h hs (by have:=hs.1; simp; omega) (fun x hx=>by cases hx)
   exact ⟨y,r',f1,f2,f2.length_le,f3,f4⟩
  unfold TotP
  obtain ⟨y,r,e,e1,e2,e3,e4⟩:=hpart s b hn hs
  rw [i_rexReader_pattern_eq,e,Option.bind_some]
  have h60:=hs.1
  obtain ⟨y',r',f1,f2,f3,f4⟩:=i_pat_L1_tot z_impl_Rex (n+1) hpart s.length r [y] (by have:=e1.length_le; omega) hn (hs.suf e1) (by simp; omega) (fun x hx=>by rw [List.mem_singleton.1 hx]; exact e4)
  exact ⟨y',r',f1,f2.trans e1,by have:=(f2.trans e1).length_le; omega,fun h=>f3 (e3 h),f4⟩
def Res (S:List Int) (p:Nat) (d:Int) (lo:Nat) (x:impl_Rex) (c:spec_l3Cur) (y:impl_Rex) (r:impl_rexReader):Prop :=
 (∃ q:Nat,p+lo≤q∧q≤S.length∧c=⟨S,(q:Int),false⟩∧r=⟨S.drop q,false⟩∧x=y)∨(c.bad=true∧(r.bad=false→(r.s.length:Int)+82≤S.length+d))
def Sim (S:List Int) (p:Nat) (d:Int) (lo:Nat) (fs:Option (impl_Rex × spec_l3Cur × Unit)) (fi:Option (impl_Rex × impl_rexReader × Unit)):Prop :=
 ∃ x c y r,fs=some (x,c,())∧fi=some (y,r,())∧Res S p d lo x c y r
theorem w_succ {p:Nat} (h:p≤1000):w64 ((p:Int)+1)=((p+1:Nat):Int):=by rw [w64_id (by omega) (by omega)]; omega
theorem set_behind_sim {S:List Int} (hS:By S) (q:Nat) (hq:q≤S.length) (nt:Bool) (d:Int) :
  ∃ x c,s_l3Set_L1 ⟨S,(q:Int),false⟩ z_impl_Rex ⟨3,0,[],nt,[]⟩=some (x,c,())∧Res S q d 0 x c (setRes (S.drop q) nt).1 (setRes (S.drop q) nt).2:=by
 have h60:=hS.1
 have hl:=body_len (S.drop q)
 rw [List.length_drop] at hl
 rw [s_l3Set_L1_eq,set_s z_impl_Rex _ hS.1 hS.2 (bodyOf (S.drop q)).length q _ 0 false List.length_replicate hq (Nat.le_refl _) (Int.le_refl _) (by omega),s_l3Set_L4_eq]
 dsimp only
 have hc:=fun c=>col_s c z_impl_Rex ⟨3,0,[],nt,[]⟩ (f:=(setRun (bodyOf (S.drop q)).length (bodyOf (S.drop q)) (List.replicate 256 false) false).1) (by rw [setRun_len]; exact List.length_replicate) 256 0 [] rfl (Nat.zero_le _)
 rw [show ((0:Nat):Int)=0 from rfl] at hc
 rw [w_succ (by omega),hc]
 refine ⟨_,_,rfl,?_⟩
 unfold setRes
 split
 ·rename_i h
  refine .inr ⟨?_,fun h=>by cases h⟩
  dsimp only
  rcases h with h | h
  ·rw [List.length_drop] at h
   rw [decide_eq_true (p:=S.length≤q+(bodyOf (S.drop q)).length) (by omega)]; rfl
  ·rw [h,decide_eq_true (p:=(0:Int)=0) rfl,decide_eq_true (p:=([]:List Int)=[]) rfl,Bool.and_true,Bool.or_true,Bool.true_or]
 ·rename_i h
  have h1:¬ (bodyOf (S.drop q)).length=(S.drop q).length:=fun e=>h (.inl e)
  have h2:¬ bodyOf (S.drop q)=[]:=fun e=>h (.inr e)
  rw [List.length_drop] at h1
  dsimp only
  rw [decide_eq_false (p:=S.length≤q+(bodyOf (S.drop q)).length) (by omega),decide_eq_false h2,Bool.and_false,Bool.or_false,Bool.false_or,List.drop_drop]
  cases (setRun (bodyOf (S.drop q)).length (bodyOf (S.drop q)) (List.replicate 256 false) false).2 with
  | true=>exact .inr ⟨rfl,fun h=>by cases h⟩
  | false=>exact .inl ⟨q+(bodyOf (S.drop q)).length+1,by omega,by omega,rfl,rfl,rfl⟩
theorem set_sim {S:List Int} (hS:By S) (p:Nat) (hp:p≤S.length) (d:Int):Sim S p d 0 (s_l3Set ⟨S,(p:Int),false⟩) (i_rexReader_set ⟨S.drop p,false⟩):=by
 have h60:=hS.1
 obtain ⟨nt,k,e,hk⟩:=take_94 (S.drop p)
 have hu:By ((S.drop p).drop k):=hS.suf ((List.drop_suffix _ _).trans (List.drop_suffix _ _))
 have hi:=i_set_behind _ nt hu.1 hu.2 _ e
 rw [s_l3Set_eq]
 rcases hk with ⟨rfl,rfl,u,hu'⟩ | ⟨rfl,rfl,hu'⟩
 ·have hlt:p < S.length:=by
   have:=congrArg List.length hu'
   rw [List.length_drop] at this
   simp at this; omega
  have h94:S[p]=94:=by
   rw [List.drop_eq_getElem_cons hlt] at hu'
   exact (List.cons.inj hu').1
  rw [now_at hlt,Option.bind_some]
  dsimp only
  rw [if_pos (decide_eq_true h94),w_succ (by omega)]
  obtain ⟨x,c,e1,e2⟩:=set_behind_sim hS (p+1) (by omega) true d
  rw [List.drop_drop] at hi
  refine ⟨x,c,_,_,e1,hi,?_⟩
  rcases e2 with ⟨q,a,b⟩ | h
  ·exact .inl ⟨q,by omega,b⟩
  ·exact .inr h
 ·have hn:s_l3Now ⟨S,(p:Int),false⟩ 94=some (false,⟨S,(p:Int),false⟩,()):=by
   by_cases hlt:p < S.length
   ·rw [now_at hlt]
    have:¬ S[p]=94:=fun h=>hu' (S.drop (p+1)) (by rw [List.drop_eq_getElem_cons hlt,h])
    rw [decide_eq_false this]
   ·exact now_end (by omega)
  rw [hn,Option.bind_some]
  dsimp only
  rw [if_neg (by simp)]
  obtain ⟨x,c,e1,e2⟩:=set_behind_sim hS p hp false d
  exact ⟨x,c,_,_,e1,hi,e2⟩
theorem atom_sim {S:List Int} (hS:By S) (p:Nat) (hp:p < S.length) (d:Int) (hd:0≤d) (hdp:d≤p)
  (hpat:Sim S (p+1) (d+1) 0 (s_l3Pattern ⟨S,((p+1:Nat):Int),false⟩ (d+1)) (i_rexReader_pattern ⟨S.drop (p+1),false⟩)) :
  Sim S p d 1 (s_l3Atom ⟨S,(p:Int),false⟩ d) (i_rexReader_atom ⟨S.drop p,false⟩):=by
 have h60:=hS.1
 have hdrop:=List.drop_eq_getElem_cons hp
 unfold Sim
 rw [s_l3Atom_eq]
 dsimp only
 rw [if_neg (by simp),if_neg (by rw [decide_eq_true_eq]; omega)]
 by_cases h40:d > 40
 ·rw [if_pos (decide_eq_true h40)]
  have hb:=hS.suf (List.drop_suffix p S)
  rw [hdrop] at hb ⊢
  obtain ⟨y,r,e,e1,e2,e3,e4⟩:=i_atom_tot S[p] _ hb (i_tot _ _ false (Nat.le_refl _) (hS.suf (List.drop_suffix (p+1) S)))
  refine ⟨_,_,_,_,rfl,e,.inr ⟨rfl,fun _=>?_⟩⟩
  simp only [List.length_cons,List.length_drop] at e2
  omega
 rw [if_neg (by rw [decide_eq_true_eq]; exact h40),if_pos (by omega),getD_nat hp,w_succ (by omega),w64_id (n:=d+1) (by omega) (by omega),hdrop,i_rexReader_atom_eq,next_yes,Option.bind_some]
 dsimp only
 rw [if_pos (c:=(0:Int)≤1∧(1:Int)≤((S[p] :: S.drop (p+1)).length:Int)) (by simp; omega),drop1]
 by_cases c1:S[p]=40
 ·rw [if_pos (decide_eq_true c1),if_pos (decide_eq_true c1)]
  obtain ⟨x,c,y,r,e1,e2,e3⟩:=hpat
  rw [e1,e2,Option.bind_some,Option.bind_some]
  dsimp only
  rcases e3 with ⟨q,q1,q2,rfl,rfl,rfl⟩ | ⟨hc,hr⟩
  ·by_cases hq:q < S.length
   ·rw [now_at hq,Option.bind_some,List.drop_eq_getElem_cons hq]
    dsimp only
    by_cases ha:S[q]=41
    ·rw [ha,take_yes,Option.bind_some,if_neg (by simp),w_succ (by omega)]
     dsimp only
     rw [if_neg (by simp)]
     exact ⟨_,_,_,_,rfl,rfl,.inl ⟨q+1,by omega,by omega,rfl,rfl,rfl⟩⟩
    ·rw [take_other ha,Option.bind_some,if_pos (by simp [ha])]
     dsimp only
     rw [if_pos (by simp)]
     exact ⟨_,_,_,_,rfl,rfl,.inr ⟨rfl,fun h=>by cases h⟩⟩
   ·rw [now_end (by omega),Option.bind_some,List.drop_eq_nil_of_le (by omega),take_no (.inl rfl),Option.bind_some]
    dsimp only
    rw [if_pos (by simp),if_pos (by simp)]
    exact ⟨_,_,_,_,rfl,rfl,.inr ⟨rfl,fun h=>by cases h⟩⟩
  ·rw [now_bad hc,Option.bind_some]
   dsimp only
   rw [if_pos (by simp)]
   rcases reader_cases r with hr' | ⟨a,t,rfl⟩
   ·rw [take_no hr',Option.bind_some]
    dsimp only
    rw [if_pos (by simp)]
    exact ⟨_,_,_,_,rfl,rfl,.inr ⟨rfl,fun h=>by cases h⟩⟩
   ·have:=hr rfl
    simp only [List.length_cons] at this
    by_cases ha:a=41
    ·subst ha
     rw [take_yes,Option.bind_some]
     dsimp only
     rw [if_neg (by simp)]
     exact ⟨_,_,_,_,rfl,rfl,.inr ⟨rfl,fun h=>by dsimp only; omega⟩⟩
    ·rw [take_other ha,Option.bind_some]
     dsimp only
     rw [if_pos (by simp)]
     exact ⟨_,_,_,_,rfl,rfl,.inr ⟨rfl,fun h=>by cases h⟩⟩
 have n1:¬ (decide (S[p]=40)=true):=by rw [decide_eq_true_eq]; exact c1
 rw [if_neg n1,if_neg n1]
 have good:∀ x:impl_Rex,∃ x' c' y' r',some (x,(⟨S,((p+1:Nat):Int),false⟩:spec_l3Cur),())=some (x',c',())∧some (x,(⟨S.drop (p+1),false⟩:impl_rexReader),())=some (y',r',())∧Res S p d 1 x' c' y' r' :=
  fun x=>⟨_,_,_,_,rfl,rfl,.inl ⟨p+1,by omega,by omega,rfl,rfl,rfl⟩⟩
 have bad:∀ (x y:impl_Rex) (a:Int) (s:List Int),∃ x' c' y' r',some (x,(⟨S,a,true⟩:spec_l3Cur),())=some (x',c',())∧some (y,(⟨s,true⟩:impl_rexReader),())=some (y',r',())∧Res S p d 1 x' c' y' r' :=
  fun x y a s=>⟨_,_,_,_,rfl,rfl,.inr ⟨rfl,fun h=>by cases h⟩⟩
 by_cases c2:S[p]=46
 ·rw [if_pos (decide_eq_true c2),if_pos (decide_eq_true c2)]; exact good _
 have n2:¬ (decide (S[p]=46)=true):=by rw [decide_eq_true_eq]; exact c2
 rw [if_neg n2,if_neg n2]
 by_cases c3:S[p]=94
 ·rw [if_pos (decide_eq_true c3),if_pos (decide_eq_true c3)]; exact good _
 have n3:¬ (decide (S[p]=94)=true):=by rw [decide_eq_true_eq]; exact c3
 rw [if_neg n3,if_neg n3]
 by_cases c4:S[p]=36
 ·rw [if_pos (decide_eq_true c4),if_pos (decide_eq_true c4)]; exact good _
 have n4:¬ (decide (S[p]=36)=true):=by rw [decide_eq_true_eq]; exact c4
 rw [if_neg n4,if_neg n4]
 by_cases c5:S[p]=91
 ·rw [if_pos (decide_eq_true c5),if_pos (decide_eq_true c5)]
  obtain ⟨x,c,y,r,e1,e2,e3⟩:=set_sim hS (p+1) (by omega) d
  rw [e1,e2,Option.bind_some,Option.bind_some]
  refine ⟨_,_,_,_,rfl,rfl,?_⟩
  rcases e3 with ⟨q,a,b⟩ | h
  ·exact .inl ⟨q,by omega,b⟩
  ·exact .inr h
 have n5:¬ (decide (S[p]=91)=true):=by rw [decide_eq_true_eq]; exact c5
 rw [if_neg n5,if_neg n5]
 by_cases c6:S[p]=92
 ·rw [if_pos (decide_eq_true c6),if_pos (decide_eq_true c6)]
  by_cases hq:p+1 < S.length
  ·rw [if_neg (by rw [decide_eq_true_eq]; omega),if_pos (by omega),getD_nat hq,w_succ (by omega),List.drop_eq_getElem_cons hq,next_yes,Option.bind_some]
   dsimp only
   rw [if_neg (by simp),if_pos (by simp; omega),cut1]
   exact ⟨_,_,_,_,rfl,rfl,.inl ⟨p+1+1,by omega,by omega,rfl,rfl,rfl⟩⟩
  ·rw [if_pos (decide_eq_true (by omega)),List.drop_eq_nil_of_le (by omega),next_no (.inl rfl),Option.bind_some]
   dsimp only
   rw [if_pos (by simp)]
   exact bad _ _ _ _
 have n6:¬ (decide (S[p]=92)=true):=by rw [decide_eq_true_eq]; exact c6
 rw [if_neg n6,if_neg n6]
 by_cases c7:S[p]=42
 ·rw [if_pos (decide_eq_true c7),if_pos (decide_eq_true c7),if_pos (decide_eq_true c7),s_l3Atom_L1_eq,i_rexReader_atom_L1_eq,if_pos (decide_eq_true c7)]; exact bad _ _ _ _
 have n7:¬ (decide (S[p]=42)=true):=by rw [decide_eq_true_eq]; exact c7
 rw [if_neg n7,if_neg n7]
 by_cases c8:S[p]=43
 ·rw [if_pos (decide_eq_true c8),if_pos (decide_eq_true c8),if_pos (decide_eq_true c8),s_l3Atom_L1_eq,i_rexReader_atom_L1_eq,if_pos (decide_eq_true c8)]; exact bad _ _ _ _
 have n8:¬ (decide (S[p]=43)=true):=by rw [decide_eq_true_eq]; exact c8
 rw [if_neg n8,if_neg n8]
 by_cases c9:S[p]=63
 ·rw [if_pos (decide_eq_true c9),s_l3Atom_L1_eq,i_rexReader_atom_L1_eq,if_pos (decide_eq_true c9)]; exact bad _ _ _ _
 have n9:¬ (decide (S[p]=63)=true):=by rw [decide_eq_true_eq]; exact c9
 rw [if_neg n9,s_l3Atom_L1_eq,i_rexReader_atom_L1_eq,if_neg n9]
 exact good _
theorem piece_L1_bad {c:spec_l3Cur} (z x:impl_Rex) (h:c.bad=true):s_l3Piece_L1 c z x=some (x,c,()):=by
 rw [s_l3Piece_L1_eq,if_neg (by simp [h])]
theorem piece_L1_sim {S:List Int} (hS:By S) (d:Int):∀ (n p:Nat) (x:impl_Rex),p≤S.length→S.length - p≤n→Sim S p d 0 (s_l3Piece_L1 ⟨S,(p:Int),false⟩ z_impl_Rex x) (i_rexReader_piece_L1 ⟨S.drop p,false⟩ z_impl_Rex x):=by
 have h60:=hS.1
 have stop:∀ (p:Nat) (x:impl_Rex),p≤S.length→∃ x' c' y' r',some (x,(⟨S,(p:Int),false⟩:spec_l3Cur),())=some (x',c',())∧some (x,(⟨S.drop p,false⟩:impl_rexReader),())=some (y',r',())∧Res S p d 0 x' c' y' r' :=
  fun p x hp=>⟨_,_,_,_,rfl,rfl,.inl ⟨p,by omega,hp,rfl,rfl,rfl⟩⟩
 intro n
 induction n with
 | zero =>
  intro p x hp hn
  unfold Sim
  rw [s_l3Piece_L1_eq,if_pos (by simp),now_end (by omega),Option.bind_some]
  dsimp only
  rw [if_neg (by simp),now_end (by omega),Option.bind_some]
  dsimp only
  rw [if_neg (by simp),now_end (by omega),Option.bind_some]
  dsimp only
  rw [if_neg (by simp),s_l3Piece_L2_eq,if_pos (by simp),i_rexReader_piece_L1_eq,next_no (.inl (List.drop_eq_nil_of_le (by omega))),Option.bind_some]
  dsimp only
  rw [if_pos (by simp)]
  exact stop p x hp
 | succ n ih =>
  intro p x hp hn
  by_cases hlt:p < S.length
  ·unfold Sim
   rw [s_l3Piece_L1_eq,if_pos (by simp),now_at hlt,Option.bind_some]
   dsimp only
   rw [now_at hlt,Option.bind_some]
   dsimp only
   rw [now_at hlt,Option.bind_some,i_rexReader_piece_L1_eq,List.drop_eq_getElem_cons hlt,next_yes,Option.bind_some]
   dsimp only
   obtain ⟨v,e,hv⟩:=repeat_val S[p]
   rw [if_neg (c:=(!true)=true) (by simp),e,Option.bind_some]
   dsimp only
   rw [Option.bind_some]
   dsimp only
   rw [if_pos (c:=(0:Int)≤1∧(1:Int)≤((S[p] :: S.drop (p+1)).length:Int)) (by simp; omega),drop1]
   have go:∀ v:Int,v ≠ 0→Sim S p d 0 (s_l3Piece_L2 v ⟨S,(p:Int),false⟩ z_impl_Rex x) (i_rexReader_piece_L1 ⟨S.drop (p+1),false⟩ z_impl_Rex ⟨v,0,[],false,[x]⟩):=fun v hv=>by
    rw [s_l3Piece_L2_eq,if_neg (by rw [decide_eq_true_eq]; exact hv)]
    dsimp only
    rw [w_succ (by omega)]
    obtain ⟨x',c',y',r',f1,f2,f3⟩:=ih (p+1) ⟨v,0,[],false,[x]⟩ (by omega) (by omega)
    refine ⟨x',c',y',r',f1,f2,?_⟩
    rcases f3 with ⟨q,a,b⟩ | h
    ·exact .inl ⟨q,by omega,b⟩
    ·exact .inr h
   rcases hv with ⟨rfl,h⟩ | ⟨rfl,h⟩ | ⟨rfl,h⟩ | ⟨rfl,h1,h2,h3⟩
   ·rw [if_pos (decide_eq_true h),if_neg (by simp)]; exact go 8 (by decide)
   ·rw [if_neg (by rw [h]; simp),if_pos (decide_eq_true h),if_neg (by simp)]; exact go 9 (by decide)
   ·rw [if_neg (by rw [h]; simp),if_neg (by rw [h]; simp),if_pos (decide_eq_true h),if_neg (by simp)]; exact go 10 (by decide)
   ·rw [if_neg (by rw [decide_eq_true_eq]; exact h1),if_neg (by rw [decide_eq_true_eq]; exact h2),if_neg (by rw [decide_eq_true_eq]; exact h3),if_pos (by simp),s_l3Piece_L2_eq,if_pos (by simp),← List.drop_eq_getElem_cons hlt]
    exact stop p x hp
  ·have hz:S.length - p≤0:=by omega
   unfold Sim
   rw [s_l3Piece_L1_eq,if_pos (by simp),now_end (by omega),Option.bind_some]
   dsimp only
   rw [if_neg (by simp),now_end (by omega),Option.bind_some]
   dsimp only
   rw [if_neg (by simp),now_end (by omega),Option.bind_some]
   dsimp only
   rw [if_neg (by simp),s_l3Piece_L2_eq,if_pos (by simp),i_rexReader_piece_L1_eq,next_no (.inl (List.drop_eq_nil_of_le (by omega))),Option.bind_some]
   dsimp only
   rw [if_pos (by simp)]
   exact stop p x hp
theorem piece_sim {S:List Int} (hS:By S) (p:Nat) (d:Int) (h:Sim S p d 1 (s_l3Atom ⟨S,(p:Int),false⟩ d) (i_rexReader_atom ⟨S.drop p,false⟩)) :
  Sim S p d 1 (s_l3Piece ⟨S,(p:Int),false⟩ d) (i_rexReader_piece ⟨S.drop p,false⟩):=by
 obtain ⟨x,c,y,r,e1,e2,e3⟩:=h
 unfold Sim
 rw [s_l3Piece_eq,i_rexReader_piece_eq,e1,e2,Option.bind_some,Option.bind_some]
 dsimp only
 rcases e3 with ⟨q,q1,q2,rfl,rfl,rfl⟩ | ⟨hc,hr⟩
 ·obtain ⟨x',c',y',r',f1,f2,f3⟩:=piece_L1_sim hS d _ q x q2 (Nat.le_refl _)
  refine ⟨x',c',y',r',f1,f2,?_⟩
  rcases f3 with ⟨q',a,b⟩ | h
  ·exact .inl ⟨q',by omega,b⟩
  ·exact .inr h
 ·rw [piece_L1_bad _ _ hc]
  obtain ⟨y',r',f1,f2,f3⟩:=i_piece_L1_tot' z_impl_Rex _ r y (Nat.le_refl _)
  refine ⟨_,_,_,_,rfl,f1,.inr ⟨hc,fun h=>?_⟩⟩
  have:=f2.length_le
  have hb:r.bad=false:=by
   cases hb:r.bad with
   | false=>rfl
   | true=>rw [f3 hb] at h; cases h
  have:=hr hb
  omega
theorem part_L1_bad {c:spec_l3Cur} (d:Int) (l:List impl_Rex) (z:impl_Rex) (h:c.bad=true):s_l3Part_L1 d l c z=some (partEnd l,c,()):=by
 rw [s_l3Part_L1_eq,if_neg (by simp [h]),partEnd_eq]
theorem res_up {S:List Int} {p p' lo:Nat} {d:Int} {x:impl_Rex} {c:spec_l3Cur} {y:impl_Rex} {r:impl_rexReader} (lo':Nat) (h:Res S p' d lo x c y r) (hp:p+lo'≤p'+lo):Res S p d lo' x c y r:=by
 rcases h with ⟨q,a,b⟩ | h
 ·exact .inl ⟨q,by omega,b⟩
 ·exact .inr h
theorem bad_back {r r':impl_rexReader} {S:List Int} {d:Int} (hr:r.bad=false→(r.s.length:Int)+82≤S.length+d) (hs:r'.s <:+ r.s) (hb:r.bad=true→r'.bad=true) :
  r'.bad=false→(r'.s.length:Int)+82≤S.length+d:=by
 intro h
 have:=hs.length_le
 have hb':r.bad=false:=by
  cases hb':r.bad with
  | false=>rfl
  | true=>rw [hb hb'] at h; cases h
 have:=hr hb'
 omega
theorem i_all (n:Nat):(∀ b s,(b :: s).length≤n→By (b :: s)→TotP i_rexReader_piece (b :: s) false 1)∧(∀ s b,s.length≤n→By s→TotP i_rexReader_part s b 0):=by
 have hpiece:∀ b s,(b :: s).length≤n→By (b :: s)→TotP i_rexReader_piece (b :: s) false 1:=fun b s h hs =>
  i_piece_tot b s (i_atom_tot b s hs (i_tot _ s false (Nat.le_refl _) (hs.suf (List.suffix_cons _ _))))
 refine ⟨hpiece,fun s b h hs=>?_⟩
 unfold TotP
 rw [i_rexReader_part_eq]
 obtain ⟨y,r',f1,f2,f3,f4⟩:=i_part_L1_tot z_impl_Rex n hpiece s.length ⟨s,b⟩ [] (Nat.le_refl _) h hs (by have:=hs.1; simp; omega) (fun x hx=>by cases hx)
 exact ⟨y,r',f1,f2,f2.length_le,f3,f4⟩
theorem part_L1_any (z:impl_Rex) (r:impl_rexReader) (hb:By r.s):∀ (l:List impl_Rex),l.length+r.s.length≤60→∃ y r',i_rexReader_part_L1 l r z=some (y,r',())∧r'.s <:+ r.s∧(r.bad=true→r'.bad=true):=by
 have key:∀ (n:Nat) (r:impl_rexReader) (l:List impl_Rex),r.s.length≤n→By r.s→l.length+n≤60→∃ y r',i_rexReader_part_L1 l r z=some (y,r',())∧r'.s <:+ r.s∧(r.bad=true→r'.bad=true):=by
  intro n
  induction n with
  | zero =>
   intro r l hn hb hl
   rw [i_rexReader_part_L1_eq,next_no (.inl (List.length_eq_zero_iff.1 (by omega))),Option.bind_some]
   dsimp only
   rw [if_pos (by simp),partEnd_eq]
   exact ⟨_,_,rfl,List.suffix_refl _,fun h=>h⟩
  | succ n ih =>
   intro r l hn hb hl
   rw [i_rexReader_part_L1_eq]
   have stop:∃ y r',some (partEnd l,r,())=some (y,r',())∧r'.s <:+ r.s∧(r.bad=true→r'.bad=true):=⟨_,_,rfl,List.suffix_refl _,fun h=>h⟩
   rcases reader_cases r with hr | ⟨b,s,rfl⟩
   ·rw [next_no hr,Option.bind_some]
    dsimp only
    rw [if_pos (by simp),partEnd_eq]
    exact stop
   ·rw [next_yes,Option.bind_some]
    dsimp only
    rw [if_neg (by simp)]
    by_cases c1:b=124
    ·rw [if_pos (decide_eq_true c1),partEnd_eq]; exact stop
    rw [if_neg (by rw [decide_eq_true_eq]; exact c1)]
    by_cases c2:b=41
    ·rw [if_pos (decide_eq_true c2),partEnd_eq]; exact stop
    rw [if_neg (by rw [decide_eq_true_eq]; exact c2)]
    obtain ⟨y,r,e,e1,e2,e3,e4⟩:=(i_all _).1 b s (Nat.le_refl _) hb
    rw [e,Option.bind_some]
    dsimp only
    rw [if_pos (by rw [room_eq]; omega)]
    have h2:r.s.length≤n:=by have:(b :: s).length≤n+1:=hn; omega
    obtain ⟨y',r',f1,f2,f3⟩:=ih r _ h2 (hb.suf e1) (by show (l ++ [y]).length+n≤60; simp; omega)
    exact ⟨y',r',f1,f2.trans e1,(fun h=>by cases h)⟩
 intro l hl
 exact key _ r l (Nat.le_refl _) hb hl
theorem pat_L1_any (z:impl_Rex) (r:impl_rexReader) (hb:By r.s):∀ (l:List impl_Rex),l.length+r.s.length≤61→∃ y r',i_rexReader_pattern_L1 l r z=some (y,r',())∧r'.s <:+ r.s∧(r.bad=true→r'.bad=true):=by
 have key:∀ (n:Nat) (r:impl_rexReader) (l:List impl_Rex),r.s.length≤n→By r.s→l.length+n≤61→∃ y r',i_rexReader_pattern_L1 l r z=some (y,r',())∧r'.s <:+ r.s∧(r.bad=true→r'.bad=true):=by
  intro n
  induction n with
  | zero =>
   intro r l hn hb hl
   rw [i_rexReader_pattern_L1_eq,take_no (.inl (List.length_eq_zero_iff.1 (by omega))),Option.bind_some]
   dsimp only
   rw [if_neg (by simp),patEnd_eq]
   exact ⟨_,_,rfl,List.suffix_refl _,fun h=>h⟩
  | succ n ih =>
   intro r l hn hb hl
   rw [i_rexReader_pattern_L1_eq]
   have stop:∃ y r',some (patEnd l,r,())=some (y,r',())∧r'.s <:+ r.s∧(r.bad=true→r'.bad=true):=⟨_,_,rfl,List.suffix_refl _,fun h=>h⟩
   rcases reader_cases r with hr | ⟨b,s,rfl⟩
   ·rw [take_no hr,Option.bind_some]
    dsimp only
    rw [if_neg (by simp),patEnd_eq]
    exact stop
   ·by_cases c1:b=124
    ·subst c1
     rw [take_yes,Option.bind_some]
     dsimp only
     have hbs:By s:=hb.suf (List.suffix_cons _ _)
     have hn':s.length≤n:=by have:(124 :: s).length≤n+1:=hn; simp only [List.length_cons] at this; omega
     obtain ⟨y,r,e,e1,e2,e3,e4⟩:=(i_all _).2 s false (Nat.le_refl _) hbs
     rw [if_pos rfl,e,Option.bind_some]
     dsimp only
     rw [if_pos (by rw [room_eq]; omega)]
     obtain ⟨y',r',f1,f2,f3⟩:=ih r _ (by omega) (hbs.suf e1) (by show (l ++ [y]).length+n≤61; simp; omega)
     exact ⟨y',r',f1,suf_cons (f2.trans e1),(fun h=>by cases h)⟩
    ·rw [take_other c1,Option.bind_some]
     dsimp only
     rw [if_neg (by simp),patEnd_eq]
     exact stop
 intro l hl
 exact key _ r l (Nat.le_refl _) hb hl
theorem part_L1_sim {S:List Int} (hS:By S) (d:Int) (m:Nat) (hp:∀ p,p < S.length→S.length - p≤m→d≤p→Sim S p d 1 (s_l3Piece ⟨S,(p:Int),false⟩ d) (i_rexReader_piece ⟨S.drop p,false⟩)) :
  ∀ (n p:Nat) (l:List impl_Rex),p≤S.length→S.length - p≤n→n≤m→d≤p→l.length+n≤60→Sim S p d 0 (s_l3Part_L1 d l ⟨S,(p:Int),false⟩ z_impl_Rex) (i_rexReader_part_L1 l ⟨S.drop p,false⟩ z_impl_Rex):=by
 have h60:=hS.1
 intro n
 induction n with
 | zero =>
  intro p l h1 h2 h3 h4 h5
  unfold Sim
  rw [s_l3Part_L1_eq]
  dsimp only
  rw [if_pos (by simp),if_neg (by rw [decide_eq_true_eq]; omega),partEnd_eq,i_rexReader_part_L1_eq,next_no (.inl (List.drop_eq_nil_of_le (by omega))),Option.bind_some]
  dsimp only
  rw [if_pos (by simp),partEnd_eq]
  exact ⟨_,_,_,_,rfl,rfl,.inl ⟨p,by omega,h1,rfl,rfl,rfl⟩⟩
 | succ n ih =>
  intro p l h1 h2 h3 h4 h5
  unfold Sim
  have stop:∃ x' c' y' r',some (partEnd l,(⟨S,(p:Int),false⟩:spec_l3Cur),())=some (x',c',())∧some (partEnd l,(⟨S.drop p,false⟩:impl_rexReader),())=some (y',r',())∧Res S p d 0 x' c' y' r' :=
   ⟨_,_,_,_,rfl,rfl,.inl ⟨p,by omega,h1,rfl,rfl,rfl⟩⟩
  rw [s_l3Part_L1_eq]
  dsimp only
  by_cases hlt:p < S.length
  ·have hd:=List.drop_eq_getElem_cons hlt
   rw [if_pos (by simp),if_pos (decide_eq_true (by omega)),if_pos (by omega),getD_nat hlt,i_rexReader_part_L1_eq]
   obtain ⟨x,c,y,r,e1,e2,e3⟩:=hp p hlt (by omega) h4
   rw [hd] at stop e2 ⊢
   rw [next_yes,Option.bind_some]
   dsimp only
   rw [if_neg (c:=(!true)=true) (by simp)]
   by_cases c1:S[p]=124
   ·rw [if_neg (by simp [c1]),partEnd_eq,if_pos (decide_eq_true c1),partEnd_eq]; exact stop
   have n1:¬ (decide (S[p]=124)=true):=by rw [decide_eq_true_eq]; exact c1
   rw [if_pos (by rw [decide_eq_false c1]; rfl),if_pos (by omega),if_neg n1]
   by_cases c2:S[p]=41
   ·rw [if_neg (by simp [c2]),partEnd_eq,if_pos (decide_eq_true c2),partEnd_eq]; exact stop
   have n2:¬ (decide (S[p]=41)=true):=by rw [decide_eq_true_eq]; exact c2
   rw [if_pos (by rw [decide_eq_false c2]; rfl),if_neg n2,e1,e2,Option.bind_some,Option.bind_some]
   dsimp only
   rw [if_pos (by rw [room_eq]; omega),if_pos (by rw [room_eq]; omega)]
   have hl:∀ y:impl_Rex,(List.append l [y]).length=l.length+1:=fun y=>by show (l ++ [y]).length=_; simp
   rcases e3 with ⟨q,q1,q2,rfl,rfl,rfl⟩ | ⟨hc,hr⟩
   ·obtain ⟨x',c',y',r',f1,f2,f3⟩:=ih q (List.append l [x]) q2 (by omega) (by omega) (by omega) (by rw [hl]; omega)
    exact ⟨x',c',y',r',f1,f2,res_up 0 f3 (by omega)⟩
   ·rw [part_L1_bad _ _ _ hc]
    have hb:=hS.suf (List.drop_suffix p S)
    rw [hd] at hb
    obtain ⟨y2,r2,g,g1,g2,g3,g4⟩:=(i_all _).1 S[p] _ (Nat.le_refl _) hb
    rw [e2] at g
    obtain ⟨rfl,rfl⟩:y=y2∧r=r2:=by
     have:=Option.some.inj g
     exact ⟨congrArg Prod.fst this,congrArg (fun z=>z.2.1) this⟩
    simp only [List.length_cons,List.length_drop] at g2
    obtain ⟨y',r',f1,f2,f3⟩:=part_L1_any z_impl_Rex r (hb.suf g1) (List.append l [y]) (by rw [hl]; omega)
    exact ⟨_,_,_,_,rfl,f1,.inr ⟨hc,bad_back hr f2 f3⟩⟩
  ·rw [if_pos (by simp),if_neg (by rw [decide_eq_true_eq]; omega),partEnd_eq,i_rexReader_part_L1_eq,next_no (.inl (List.drop_eq_nil_of_le (by omega))),Option.bind_some]
   dsimp only
   rw [if_pos (by simp),partEnd_eq]
   exact stop
theorem pat_L1_bad {c:spec_l3Cur} (d:Int) (l:List impl_Rex) (z:impl_Rex) (h:c.bad=true):s_l3Pattern_L1 d l c z=some (patEnd l,c,()):=by
 rw [s_l3Pattern_L1_eq,now_bad h,Option.bind_some]
 dsimp only
 rw [if_neg (by simp),patEnd_eq]
theorem pat_L1_sim {S:List Int} (hS:By S) (d:Int) (m:Nat) (hp:∀ p,p≤S.length→S.length - p≤m→d≤p→Sim S p d 0 (s_l3Part ⟨S,(p:Int),false⟩ d) (i_rexReader_part ⟨S.drop p,false⟩)) :
  ∀ (n p:Nat) (l:List impl_Rex),p≤S.length→S.length - p≤n→n≤m→d≤p→l.length+n≤61→Sim S p d 0 (s_l3Pattern_L1 d l ⟨S,(p:Int),false⟩ z_impl_Rex) (i_rexReader_pattern_L1 l ⟨S.drop p,false⟩ z_impl_Rex):=by
 have h60:=hS.1
 intro n
 induction n with
 | zero =>
  intro p l h1 h2 h3 h4 h5
  unfold Sim
  rw [s_l3Pattern_L1_eq,now_end (by omega),Option.bind_some]
  dsimp only
  rw [if_neg (by simp),patEnd_eq,i_rexReader_pattern_L1_eq,take_no (.inl (List.drop_eq_nil_of_le (by omega))),Option.bind_some]
  dsimp only
  rw [if_neg (by simp),patEnd_eq]
  exact ⟨_,_,_,_,rfl,rfl,.inl ⟨p,by omega,h1,rfl,rfl,rfl⟩⟩
 | succ n ih =>
  intro p l h1 h2 h3 h4 h5
  unfold Sim
  have stop:∃ x' c' y' r',some (patEnd l,(⟨S,(p:Int),false⟩:spec_l3Cur),())=some (x',c',())∧some (patEnd l,(⟨S.drop p,false⟩:impl_rexReader),())=some (y',r',())∧Res S p d 0 x' c' y' r' :=
   ⟨_,_,_,_,rfl,rfl,.inl ⟨p,by omega,h1,rfl,rfl,rfl⟩⟩
  by_cases hlt:p < S.length
  ·have hd:=List.drop_eq_getElem_cons hlt
   rw [s_l3Pattern_L1_eq,now_at hlt,Option.bind_some,i_rexReader_pattern_L1_eq]
   dsimp only
   rw [hd] at stop ⊢
   by_cases c1:S[p]=124
   ·rw [c1,take_yes,Option.bind_some,if_pos (by simp),w_succ (by omega)]
    dsimp only
    rw [if_pos rfl]
    obtain ⟨x,c,y,r,e1,e2,e3⟩:=hp (p+1) (by omega) (by omega) (by omega)
    rw [e1,e2,Option.bind_some,Option.bind_some]
    dsimp only
    rw [if_pos (by rw [room_eq]; omega),if_pos (by rw [room_eq]; omega)]
    have hl:∀ y:impl_Rex,(List.append l [y]).length=l.length+1:=fun y=>by show (l ++ [y]).length=_; simp
    rcases e3 with ⟨q,q1,q2,rfl,rfl,rfl⟩ | ⟨hc,hr⟩
    ·obtain ⟨x',c',y',r',f1,f2,f3⟩:=ih q (List.append l [x]) q2 (by omega) (by omega) (by omega) (by rw [hl]; omega)
     exact ⟨x',c',y',r',f1,f2,res_up 0 f3 (by omega)⟩
    ·rw [pat_L1_bad _ _ _ hc]
     have hb:=hS.suf (List.drop_suffix (p+1) S)
     obtain ⟨y2,r2,g,g1,g2,g3,g4⟩:=(i_all _).2 _ false (Nat.le_refl _) hb
     rw [e2] at g
     obtain ⟨rfl,rfl⟩:y=y2∧r=r2:=by
      have:=Option.some.inj g
      exact ⟨congrArg Prod.fst this,congrArg (fun z=>z.2.1) this⟩
     simp only [List.length_drop] at g2
     obtain ⟨y',r',f1,f2,f3⟩:=pat_L1_any z_impl_Rex r (hb.suf g1) (List.append l [y]) (by rw [hl]; omega)
     exact ⟨_,_,_,_,rfl,f1,.inr ⟨hc,bad_back hr f2 f3⟩⟩
   ·rw [take_other c1,Option.bind_some,if_neg (by rw [decide_eq_true_eq]; exact c1),patEnd_eq]
    dsimp only
    rw [if_neg (by simp),patEnd_eq]
    exact stop
  ·rw [s_l3Pattern_L1_eq,now_end (by omega),Option.bind_some]
   dsimp only
   rw [if_neg (by simp),patEnd_eq,i_rexReader_pattern_L1_eq,take_no (.inl (List.drop_eq_nil_of_le (by omega))),Option.bind_some]
   dsimp only
   rw [if_neg (by simp),patEnd_eq]
   exact stop
theorem pat_step {S:List Int} (hS:By S) (m:Nat) (p:Nat) (d:Int) (hpat:∀ p',p' < S.length→S.length - p'≤m→d≤p'→Sim S (p'+1) (d+1) 0 (s_l3Pattern ⟨S,((p'+1:Nat):Int),false⟩ (d+1)) (i_rexReader_pattern ⟨S.drop (p'+1),false⟩))
  (h1:p≤S.length) (h2:S.length - p≤m) (h3:0≤d) (h4:d≤p) (hm:m≤60):Sim S p d 0 (s_l3Pattern ⟨S,(p:Int),false⟩ d) (i_rexReader_pattern ⟨S.drop p,false⟩):=by
 have h60:=hS.1
 have hpart:∀ p,p≤S.length→S.length - p≤m→d≤p→Sim S p d 0 (s_l3Part ⟨S,(p:Int),false⟩ d) (i_rexReader_part ⟨S.drop p,false⟩):=fun p a b c=>by
  rw [s_l3Part_eq,i_rexReader_part_eq]
  exact part_L1_sim hS d m (fun p' a' b' c'=>piece_sim hS p' d (atom_sim hS p' a' d h3 c' (hpat p' a' b' c'))) m p [] a b (Nat.le_refl _) c (by simp; omega)
 unfold Sim
 obtain ⟨x,c,y,r,e1,e2,e3⟩:=hpart p h1 h2 h4
 rw [s_l3Pattern_eq,i_rexReader_pattern_eq,e1,e2,Option.bind_some,Option.bind_some]
 dsimp only
 rcases e3 with ⟨q,q1,q2,rfl,rfl,rfl⟩ | ⟨hc,hr⟩
 ·obtain ⟨x',c',y',r',f1,f2,f3⟩:=pat_L1_sim hS d m hpart m q [x] q2 (by omega) (Nat.le_refl _) (by omega) (by simp; omega)
  exact ⟨x',c',y',r',f1,f2,res_up 0 f3 (by omega)⟩
 ·rw [pat_L1_bad _ _ _ hc]
  have hb:=hS.suf (List.drop_suffix p S)
  obtain ⟨y2,r2,g,g1,g2,g3,g4⟩:=(i_all _).2 _ false (Nat.le_refl _) hb
  rw [e2] at g
  obtain ⟨rfl,rfl⟩:y=y2∧r=r2:=by
   have:=Option.some.inj g
   exact ⟨congrArg Prod.fst this,congrArg (fun z=>z.2.1) this⟩
  simp only [List.length_drop] at g2
  obtain ⟨y',r',f1,f2,f3⟩:=pat_L1_any z_impl_Rex r (hb.suf g1) [y] (by simp; omega)
  exact ⟨_,_,_,_,rfl,f1,.inr ⟨hc,bad_back hr f2 f3⟩⟩
theorem pat_sim {S:List Int} (hS:By S):∀ (n p:Nat) (d:Int),p≤S.length→S.length - p≤n→0≤d→d≤p→Sim S p d 0 (s_l3Pattern ⟨S,(p:Int),false⟩ d) (i_rexReader_pattern ⟨S.drop p,false⟩):=by
 have h60:=hS.1
 intro n
 induction n with
 | zero =>
  intro p d h1 h2 h3 h4
  exact pat_step hS 0 p d (fun p' h h' h''=>absurd h (by omega)) h1 h2 h3 h4 (by omega)
 | succ n ih =>
  intro p d h1 h2 h3 h4
  exact pat_step hS (S.length - p) p d (fun p' h h' h''=>ih (p'+1) (d+1) (by omega) (by omega) (by omega) (by omega)) h1 (Nat.le_refl _) h3 h4 (by omega)
theorem rexParse_same (S:List Int) (hB:∀ b∈S,0≤b∧b≤255) (hl:S.length≤9223372036854775807):∃ x ok,s_RexParse S=some (x,ok,())∧i_RexParse S=some (x,ok,()):=by
 rw [s_RexParse_eq,i_RexParse_eq]
 by_cases c:(S.length:Int) > 60
 ·rw [if_pos (decide_eq_true c),if_pos (decide_eq_true c)]; exact ⟨_,_,rfl,rfl⟩
 have n1:¬ (decide ((S.length:Int) > 60)=true):=by rw [decide_eq_true_eq]; exact c
 have hS:By S:=⟨by omega,hB⟩
 obtain ⟨x,c,y,r,e1,e2,e3⟩:=pat_sim hS S.length 0 0 (Nat.zero_le _) (by omega) (Int.le_refl _) (Int.le_refl _)
 rw [List.drop_zero] at e2
 rw [show ((0:Nat):Int)=0 from rfl] at e1
 rw [if_neg n1,if_neg n1,e1,e2,Option.bind_some,Option.bind_some]
 dsimp only
 obtain ⟨y2,r2,g,g1,g2,g3,g4⟩:=i_tot _ S false (Nat.le_refl _) hS
 rw [e2] at g
 obtain ⟨rfl,rfl⟩:y=y2∧r=r2:=by
  have:=Option.some.inj g
  exact ⟨congrArg Prod.fst this,congrArg (fun z=>z.2.1) this⟩
 rcases e3 with ⟨q,q1,q2,rfl,rfl,rfl⟩ | ⟨hc,hr⟩
 ·dsimp only
  rw [if_neg (c:=false=true) (by simp),if_neg (c:=false=true) (by simp)]
  by_cases hq:q=S.length
  ·have a1:¬ ((!(decide ((q:Int)=(S.length:Int))))=true):=by rw [decide_eq_true (by omega)]; decide
   have a2:¬ ((!(decide (S.drop q=[])))=true):=by rw [decide_eq_true (List.drop_eq_nil_of_le (by omega))]; decide
   obtain ⟨v,d1,d2⟩:=deep_same g4
   rw [if_neg a1,if_neg a2,d1,d2,Option.bind_some]
   dsimp only
   by_cases hv:v > 12
   ·rw [if_pos (decide_eq_true hv)]; exact ⟨_,_,rfl,rfl⟩
   ·rw [if_neg (by rw [decide_eq_true_eq]; exact hv)]; exact ⟨_,_,rfl,rfl⟩
  ·have a1:(!(decide ((q:Int)=(S.length:Int))))=true:=by rw [decide_eq_false (by omega)]; rfl
   have a2:(!(decide (S.drop q=[])))=true:=by
    rw [decide_eq_false (fun h=>by have:=congrArg List.length h; rw [List.length_drop] at this; simp at this; omega)]; rfl
   rw [if_pos a1,if_pos a2]; exact ⟨_,_,rfl,rfl⟩
 ·rw [if_pos hc]
  cases hb:r.bad with
  | true=>rw [if_pos rfl]; exact ⟨_,_,rfl,rfl⟩
  | false=>have:=hr hb; have:=hS.1; omega
def letter (x:Int):Bool:=(decide (97≤x) && decide (x≤122)) || (decide (65≤x) && decide (x≤90))
theorem i_isLetter_ok (x:Int):i_isLetter x=some (letter x,()):=by
 rw [i_isLetter_eq]
 unfold letter
 by_cases c1:x ≥ 97
 ·by_cases c2:x≤122
  ·rw [if_pos (decide_eq_true c1),if_pos (decide_eq_true c2),decide_eq_true (show 97≤x from c1),decide_eq_true c2]; rfl
  ·rw [if_pos (decide_eq_true c1),if_neg (by rw [decide_eq_true_eq]; exact c2),if_pos (decide_eq_true (by omega)),decide_eq_false c2,Bool.and_false,Bool.false_or,decide_eq_true (show 65≤x by omega),Bool.true_and]
 ·rw [if_neg (by rw [decide_eq_true_eq]; exact c1),decide_eq_false (show ¬ 97≤x from c1),Bool.false_and,Bool.false_or]
  by_cases c3:x ≥ 65
  ·rw [if_pos (decide_eq_true c3),decide_eq_true (show 65≤x from c3),Bool.true_and]
  ·rw [if_neg (by rw [decide_eq_true_eq]; exact c3),decide_eq_false (show ¬ 65≤x from c3),Bool.false_and]
theorem s_l7Letter_ok (x:Int):s_l7Letter x=some (letter x,()):=by
 have:=i_isLetter_ok x
 rw [i_isLetter_eq] at this
 rw [s_l7Letter_eq]; exact this
theorem within_ok (l:List (List Int)) (s:List Int) (hl:l.length≤4294967296):s_l7Within l s=some (decide (s∈l),()):=by
 rw [s_l7Within_eq]
 have:=find_loopN (fun i=>s_l7Within_L1 l s i) l.length (fun i=>decide (l.getD i []=s)) (some (true,())) (some (false,())) (fun i hi=>by
  show s_l7Within_L1 l s i=_
  rw [s_l7Within_L1_eq,if_pos (decide_eq_true (by omega)),if_pos (by omega),w64_succ hi (by omega),Int.toNat_natCast]) (by
  show s_l7Within_L1 l s _=_
  rw [s_l7Within_L1_eq,if_neg (by simp)])
 rw [this,anyB_list l [] (fun x=>decide (x=s))]
 have:l.any (fun x=>decide (x=s))=decide (s∈l):=by
  rw [Bool.eq_iff_iff,List.any_eq_true,decide_eq_true_eq]
  constructor
  ·rintro ⟨x,hx,e⟩; rw [decide_eq_true_eq] at e; subst e; exact hx
  ·intro h; exact ⟨s,h,decide_eq_true rfl⟩
 rw [this]
 cases decide (s∈l) <;> rfl
theorem containsS_ok (l:List (List Int)) (s:List Int) (hl:l.length≤4294967296):x_slices_Contains_string l s=some (decide (s∈l),()):=by
 rw [x_slices_Contains_string_eq,x_slices_Index_string_eq]
 obtain ⟨k,e,e1,_⟩:=index_loop (fun i=>x_slices_Index_string_L1 l s (l.length:Int) i) () l.length (fun i=>decide (s=l.getD i [])) (fun i hi=>by
  show x_slices_Index_string_L1 l s _ i=_
  rw [x_slices_Index_string_L1_eq,if_pos (decide_eq_true (by omega)),if_pos (by omega),w64_succ hi (by omega),Int.toNat_natCast]) (by
  show x_slices_Index_string_L1 l s _ _=_
  rw [x_slices_Index_string_L1_eq,if_neg (by simp)])
 rw [e,Option.bind_some]
 dsimp only
 rw [e1,anyB_list l [] (fun x=>decide (s=x))]
 congr 2
 rw [Bool.eq_iff_iff,List.any_eq_true,decide_eq_true_eq]
 constructor
 ·rintro ⟨x,hx,e⟩; rw [decide_eq_true_eq] at e; subst e; exact hx
 ·intro h; exact ⟨s,h,decide_eq_true rfl⟩
def kw1:List (List Int):=[[66,69,71,73,78],[112,114,105,110,116],[105,102],[101,108,115,101],[119,104,105,108,101],[110,101,120,116],[100,101,108,101,116,101],[78,82],[78,70]]
def kw2:List (List Int):=[[108,101,110,103,116,104],[115,117,98,115,116,114],[105,110,100,101,120],[105,110,116],[117,112,112,101,114],[108,111,119,101,114]]
def keyword (s:List Int):Bool:=decide (s∈kw1) || decide (s∈kw2)
theorem s_calls_ok:s_l7Calls=some (kw2,()):=s_l7Calls_eq
theorem i_calls_ok:i_calls=some (kw2,()):=i_calls_eq
theorem s_Keyword_ok (s:List Int):s_Keyword s=some (keyword s,()):=by
 have e:s_l7Within [[66,69,71,73,78],[112,114,105,110,116],[105,102],[101,108,115,101],[119,104,105,108,101],[110,101,120,116],[100,101,108,101,116,101],[78,82],[78,70]] s=some (decide (s∈kw1),()):=within_ok kw1 s (by decide)
 rw [s_Keyword_eq,e,Option.bind_some,s_calls_ok,Option.bind_some]
 dsimp only
 rw [within_ok kw2 s (by decide),Option.bind_some]
 unfold keyword
 cases decide (s∈kw1) <;> rfl
theorem i_Keyword_L1_ok (s:List Int) (b:Bool):i_Keyword_L1 s b=some (b || decide (s∈kw2),()):=by
 rw [i_Keyword_L1_eq,i_calls_ok,Option.bind_some]
 dsimp only
 rw [containsS_ok kw2 s (by decide),Option.bind_some]
 cases b <;> rfl
theorem i_Keyword_ok (s:List Int):i_Keyword s=some (keyword s,()):=by
 rw [i_Keyword_eq]
 simp only [i_Keyword_L1_ok]
 have:decide (s∈kw1)=(decide (s=[66,69,71,73,78]) || (decide (s=[112,114,105,110,116]) || (decide (s=[105,102]) || (decide (s=[101,108,115,101]) || (decide (s=[119,104,105,108,101]) || (decide (s=[110,101,120,116]) || (decide (s=[100,101,108,101,116,101]) || (decide (s=[78,82]) || decide (s=[78,70]))))))))):=by
  rw [Bool.eq_iff_iff]
  simp only [decide_eq_true_eq,Bool.or_eq_true,kw1,List.mem_cons,List.not_mem_nil,or_false]
 unfold keyword
 rw [this]
 cases decide (s=[66,69,71,73,78]) <;> cases decide (s=[112,114,105,110,116]) <;> cases decide (s=[105,102]) <;> cases decide (s=[101,108,115,101]) <;> cases decide (s=[119,104,105,108,101]) <;> cases decide (s=[110,101,120,116]) <;> cases decide (s=[100,101,108,101,116,101]) <;> cases decide (s=[78,82]) <;> rfl
def nameB (s:List Int):Bool:=(decide (1≤(s.length:Int)∧(s.length:Int)≤8) && s.all letter) && !keyword s
theorem s_l9Name_ok (s:List Int) (hl:s.length≤4294967296):s_l9Name s=some (nameB s,()):=by
 rw [s_l9Name_eq]
 have:=find_loopN (fun i=>s_l9Name_L1 s i) s.length (fun i=>!letter (s.getD i 0)) (some (false,())) (some (decide (1≤(s.length:Int)∧(s.length:Int)≤8) && !keyword s,())) (fun i hi=>by
  show s_l9Name_L1 s i=_
  rw [s_l9Name_L1_eq,if_pos (decide_eq_true (by omega)),if_pos (by omega),w64_succ hi (by omega),Int.toNat_natCast,s_l7Letter_ok,Option.bind_some]) (by
  show s_l9Name_L1 s _=_
  rw [s_l9Name_L1_eq,if_neg (by simp),s_l1In_ok,Option.bind_some,s_Keyword_ok,Option.bind_some]
  dsimp only
  cases decide (1≤(s.length:Int)∧(s.length:Int)≤8) <;> rfl)
 rw [this,anyB_list s 0 (fun x=>!letter x)]
 unfold nameB
 have h:s.any (fun x=>!letter x) = !s.all letter:=by rw [← List.not_all_eq_any_not]
 rw [h]
 cases s.all letter <;> cases decide (1≤(s.length:Int)∧(s.length:Int)≤8) <;> rfl
theorem lettersAt_ok (s:List Int) (hl:s.length≤4294967296):∃ k:Int,i_lettersAt s 0=some (k,())∧decide (k=(s.length:Int))=s.all letter:=by
 rw [i_lettersAt_eq]
 have key:∀ (d i:Nat),i+d=s.length→(∀ j (h:j < s.length),j < i→letter s[j]=true)→∃ k:Int,i_lettersAt_L1 s 0 (i:Int)=some (k,())∧decide (k=(s.length:Int))=s.all letter:=by
  intro d
  induction d with
  | zero =>
   intro i hd hj
   have hi:i=s.length:=by omega
   subst hi
   rw [i_lettersAt_L1_eq,w64_id (n:=0+(s.length:Int)) (by omega) (by omega),if_neg (by simp)]
   refine ⟨_,rfl,?_⟩
   rw [decide_eq_true rfl,eq_comm,List.all_eq_true]
   intro x hx
   obtain ⟨j,h,rfl⟩:=List.mem_iff_getElem.1 hx
   exact hj j h h
  | succ d ih =>
   intro i hd hj
   have hi:i < s.length:=by omega
   rw [i_lettersAt_L1_eq,w64_id (n:=0+(i:Int)) (by omega) (by omega),Int.zero_add,if_pos (decide_eq_true (by omega)),if_pos (by omega),getD_nat hi,i_isLetter_ok,Option.bind_some]
   dsimp only
   cases e:letter s[i] with
   | true =>
    rw [if_pos rfl,w64_succ hi (by omega)]
    refine ih (i+1) (by omega) fun j h h'=>?_
    by_cases g:j=i
    ·subst g; exact e
    ·exact hj j h (by omega)
   | false =>
    rw [if_neg (by simp)]
    refine ⟨_,rfl,?_⟩
    rw [decide_eq_false (by omega),eq_comm]
    cases g:s.all letter with
    | false=>rfl
    | true=>have:=List.all_eq_true.1 g s[i] (List.getElem_mem hi); rw [e] at this; cases this
 exact key s.length 0 (by omega) (fun j _ h=>absurd h (by omega))
theorem i_isName_ok (s:List Int) (hl:s.length≤4294967296):i_isName s=some (nameB s,()):=by
 obtain ⟨k,e,e1⟩:=lettersAt_ok s hl
 rw [i_isName_eq,i_in_ok,Option.bind_some,e,Option.bind_some]
 dsimp only
 rw [e1,i_Keyword_ok,Option.bind_some]
 unfold nameB
 cases s.all letter <;> cases decide (1≤(s.length:Int)∧(s.length:Int)≤8) <;> rfl
noncomputable def rexB (s:List Int):Bool:=match s_RexParse s with
 | some (_,ok,_)=>ok
 | none=>false
theorem rex_ok (s:List Int) (hb:∀ b∈s,0≤b∧b≤255) (hl:s.length≤9223372036854775807):(∃ x,s_RexParse s=some (x,rexB s,())∧i_RexParse s=some (x,rexB s,())):=by
 obtain ⟨x,ok,e1,e2⟩:=rexParse_same s hb hl
 have:rexB s=ok:=by unfold rexB; rw [e1]
 rw [this]; exact ⟨x,e1,e2⟩
noncomputable def opB (o:impl_Op) (n v c:Int):Bool :=
 if o.Code=1 then decide (-9000000000000≤o.N∧o.N≤9000000000000) && decide (o.S=[])
 else if o.Code=2 then decide (o.N=0)
 else if o.Code=3∨o.Code=4∨o.Code=5 then (decide (o.N ≥ 0) && decide (o.N < v)) && decide (o.S=[])
 else if o.Code=6∨o.Code=7∨o.Code=8∨o.Code=35 then (decide (o.N ≥ 0) && decide (o.N < c)) && decide (o.S=[])
 else if o.Code=24∨o.Code=25 then rexB o.S && decide (o.N=0)
 else if o.Code=29 then decide (1≤o.N∧o.N≤3) && decide (o.S∈kw2)
 else if o.Code=30∨o.Code=31 then decide (0≤o.N∧o.N≤w64 (n - 1)) && decide (o.S=[])
 else if o.Code=33 then decide (0≤o.N∧o.N≤1) && decide (o.S=[])
 else (decide (1≤o.Code∧o.Code≤36) && decide (o.N=0)) && decide (o.S=[])
theorem s_DecOk_ok (n:Int):s_DecOk n=some (decide (-9000000000000≤n∧n≤9000000000000),()):=by rw [s_DecOk_eq,s_l1In_ok]; rfl
theorem i_DecOk_val (n:Int):i_DecOk n=some (decide (-9000000000000≤n∧n≤9000000000000),()):=by rw [i_DecOk_eq,i_in_ok]; rfl
theorem i_isRex_ok (s:List Int) (hb:∀ b∈s,0≤b∧b≤255) (hl:s.length≤9223372036854775807):i_isRex s=some (rexB s,()):=by
 obtain ⟨x,e1,e2⟩:=rex_ok s hb hl
 rw [i_isRex_eq,e2]; rfl
theorem ite_and (a b:Bool):(if a=true then some (b,()) else some (false,()))=some (a && b,()):=by cases a <;> rfl
theorem in4 (t1:Int) (c:Int) (b:Bool) (o:impl_Op):s_l13Op_L4 t1 c b o=some (if b=true then decide (0≤o.N∧o.N≤w64 (t1 - 1)) && decide (o.S=[]) else if c=33 then decide (0≤o.N∧o.N≤1) && decide (o.S=[]) else (decide (1≤o.Code∧o.Code≤36) && decide (o.N=0)) && decide (o.S=[]),()):=by
 rw [s_l13Op_L4_eq,s_l1In_ok,s_l1In_ok,s_l1In_ok]
 simp only [Option.bind_some,ite_and]
 cases b with
 | true=>rfl
 | false =>
  by_cases h:c=33
  ·simp [h]
  ·simp [h,Bool.and_assoc]
theorem s_l13Op_ok (o:impl_Op) (n v c:Int) (hb:∀ b∈o.S,0≤b∧b≤255) (hl:o.S.length≤9223372036854775807):s_l13Op o n v c=some (opB o n v c,()):=by
 obtain ⟨x,e1,e2⟩:=rex_ok o.S hb hl
 rw [s_l13Op_eq,s_DecOk_ok]
 simp only [Option.bind_some,ite_and,s_l13Op_L1_eq,s_l13Op_L2_eq,s_l13Op_L3_eq,in4,e1,s_calls_ok,s_l1In_ok,within_ok kw2 _ (by decide)]
 unfold opB
 by_cases c1:o.Code=1
 ·simp [c1,Bool.and_assoc]
 by_cases c2:o.Code=2
 ·simp [c2,Bool.and_assoc]
 by_cases c3:o.Code=3
 ·simp [c3,Bool.and_assoc]
 by_cases c4:o.Code=4
 ·simp [c4,Bool.and_assoc]
 by_cases c5:o.Code=5
 ·simp [c5,Bool.and_assoc]
 by_cases c6:o.Code=6
 ·simp [c6,Bool.and_assoc]
 by_cases c7:o.Code=7
 ·simp [c7,Bool.and_assoc]
 by_cases c8:o.Code=8
 ·simp [c8,Bool.and_assoc]
 by_cases c35:o.Code=35
 ·simp [c35,Bool.and_assoc]
 by_cases c24:o.Code=24
 ·simp [c24,Bool.and_assoc]
 by_cases c25:o.Code=25
 ·simp [c25,Bool.and_assoc]
 by_cases c29:o.Code=29
 ·simp [c29,Bool.and_assoc]
 by_cases c30:o.Code=30
 ·simp [c30,Bool.and_assoc]
 by_cases c31:o.Code=31
 ·simp [c31,Bool.and_assoc]
 by_cases c33:o.Code=33
 ·simp [c33,Bool.and_assoc]
 simp [Bool.and_assoc,c1,c2,c3,c4,c5,c6,c7,c8,c35,c24,c25,c29,c30,c31,c33]
def formOf (c:Int):List Int:=if c=1 then [100] else if c=2∨c=24∨c=25 then [115] else if c=29 then [110,115] else if c=3∨c=4∨c=5∨c=6∨c=7∨c=8∨c=35∨c=30∨c=31∨c=33 then [110] else []
def opNames:List (List Int):=[[],[110,117,109],[116,101,120,116],[118,97,114],[115,101,116,118,97,114],[112,108,117,115,118,97,114],[99,101,108,108],[115,101,116,99,101,108,108],[112,108,117,115,99,101,108,108],[102,105,101,108,100],[110,114],[110,102],[97,100,100],[115,117,98],[109,117,108],[100,105,118],[109,111,100],[99,97,116],[108,101,115,115],[109,111,115,116],[109,111,114,101],[108,101,97,115,116],[115,97,109,101],[111,116,104,101,114],[102,105,116,115],[108,105,110,101],[110,111,116],[109,105,110,117,115],[98,111,111,108],[99,97,108,108],[106,117,109,112],[122,101,114,111],[112,111,112],[115,104,111,119],[101,110,100,108],[100,114,111,112],[110,101,120,116]]
theorem opNames_ne (c:Int) (h:1≤c∧c≤36):opNames.getD c.toNat [] ≠ []:=by
 have:∀ n:Nat,n < 37→1≤n→opNames.getD n [] ≠ []:=by decide
 exact this c.toNat (by omega) (by omega)
theorem opName_L1 (c:Int) (f:List Int) (h:1≤c∧c≤36):i_opName_L1 c opNames f=some (opNames.getD c.toNat [],f,()):=by
 rw [i_opName_L1_eq,if_pos (by show (0:Int)≤c∧c < 37; omega)]
theorem opName_ok (c:Int):i_opName c=some (if 1≤c∧c≤36 then opNames.getD c.toNat [] else [],if 1≤c∧c≤36 then formOf c else [],()):=by
 rw [i_opName_eq,i_in_ok,Option.bind_some]
 dsimp only
 by_cases h:1≤c∧c≤36
 ·rw [decide_eq_true h,if_neg (by simp),if_pos h,if_pos h]
  have e:=fun f=>opName_L1 c f h
  unfold opNames at e ⊢
  simp only [i_opName_L2_eq,i_opName_L3_eq,e]
  unfold formOf
  by_cases c1:c=1
  ·simp [c1]
  by_cases c2:c=2
  ·simp [c2]
  by_cases c24:c=24
  ·simp [c24]
  by_cases c25:c=25
  ·simp [c25]
  by_cases c29:c=29
  ·simp [c29]
  by_cases c3:c=3
  ·simp [c3]
  by_cases c4:c=4
  ·simp [c4]
  by_cases c5:c=5
  ·simp [c5]
  by_cases c6:c=6
  ·simp [c6]
  by_cases c7:c=7
  ·simp [c7]
  by_cases c8:c=8
  ·simp [c8]
  by_cases c35:c=35
  ·simp [c35]
  by_cases c30:c=30
  ·simp [c30]
  by_cases c31:c=31
  ·simp [c31]
  by_cases c33:c=33
  ·simp [c33]
  simp [c1,c2,c3,c4,c5,c6,c7,c8,c35,c24,c25,c29,c30,c31,c33]
 ·rw [decide_eq_false h,if_pos (by simp),if_neg h,if_neg h]
theorem i_opRight_ok (o:impl_Op) (n v c:Int) (hb:∀ b∈o.S,0≤b∧b≤255) (hl:o.S.length≤9223372036854775807):i_opRight o n v c=some (opB o n v c,()):=by
 rw [i_opRight_eq,opName_ok,Option.bind_some]
 dsimp only
 by_cases h:1≤o.Code∧o.Code≤36
 ·rw [if_pos h,if_pos h,if_neg (by rw [decide_eq_true_eq]; exact opNames_ne _ h)]
  simp only [i_DecOk_val,Option.bind_some,ite_and,i_opRight_L1_eq,i_opRight_L2_eq,i_opRight_L3_eq,i_opRight_L4_eq,i_isRex_ok o.S hb hl,i_calls_ok,i_in_ok,containsS_ok kw2 _ (by decide)]
  unfold opB formOf
  by_cases c1:o.Code=1
  ·simp [c1,Bool.and_assoc] <;> by_cases hN:o.N=0 <;> by_cases hS:o.S=[] <;> simp [hN,hS]
  by_cases c2:o.Code=2
  ·simp [c2,Bool.and_assoc] <;> by_cases hN:o.N=0 <;> by_cases hS:o.S=[] <;> simp [hN,hS]
  by_cases c3:o.Code=3
  ·simp [c3,Bool.and_assoc] <;> by_cases hN:o.N=0 <;> by_cases hS:o.S=[] <;> simp [hN,hS]
  by_cases c4:o.Code=4
  ·simp [c4,Bool.and_assoc] <;> by_cases hN:o.N=0 <;> by_cases hS:o.S=[] <;> simp [hN,hS]
  by_cases c5:o.Code=5
  ·simp [c5,Bool.and_assoc] <;> by_cases hN:o.N=0 <;> by_cases hS:o.S=[] <;> simp [hN,hS]
  by_cases c6:o.Code=6
  ·simp [c6,Bool.and_assoc] <;> by_cases hN:o.N=0 <;> by_cases hS:o.S=[] <;> simp [hN,hS]
  by_cases c7:o.Code=7
  ·simp [c7,Bool.and_assoc] <;> by_cases hN:o.N=0 <;> by_cases hS:o.S=[] <;> simp [hN,hS]
  by_cases c8:o.Code=8
  ·simp [c8,Bool.and_assoc] <;> by_cases hN:o.N=0 <;> by_cases hS:o.S=[] <;> simp [hN,hS]
  by_cases c35:o.Code=35
  ·simp [c35,Bool.and_assoc] <;> by_cases hN:o.N=0 <;> by_cases hS:o.S=[] <;> simp [hN,hS]
  by_cases c24:o.Code=24
  ·simp [c24,Bool.and_assoc] <;> by_cases hN:o.N=0 <;> by_cases hS:o.S=[] <;> simp [hN,hS]
  by_cases c25:o.Code=25
  ·simp [c25,Bool.and_assoc] <;> by_cases hN:o.N=0 <;> by_cases hS:o.S=[] <;> simp [hN,hS]
  by_cases c29:o.Code=29
  ·simp [c29,Bool.and_assoc] <;> by_cases hN:o.N=0 <;> by_cases hS:o.S=[] <;> simp [hN,hS]
  by_cases c30:o.Code=30
  ·simp [c30,Bool.and_assoc] <;> by_cases hN:o.N=0 <;> by_cases hS:o.S=[] <;> simp [hN,hS]
  by_cases c31:o.Code=31
  ·simp [c31,Bool.and_assoc] <;> by_cases hN:o.N=0 <;> by_cases hS:o.S=[] <;> simp [hN,hS]
  by_cases c33:o.Code=33
  ·simp [c33,Bool.and_assoc] <;> by_cases hN:o.N=0 <;> by_cases hS:o.S=[] <;> simp [hN,hS]
  simp [c1,c2,c3,c4,c5,c6,c7,c8,c35,c24,c25,c29,c30,c31,c33,h,Bool.and_assoc]
  by_cases hN:o.N=0 <;> by_cases hS:o.S=[] <;> simp [hN,hS]
 ·rw [if_neg h,if_neg h,if_pos (by simp)]
  unfold opB
  rw [if_neg (by omega),if_neg (by omega),if_neg (by omega),if_neg (by omega),if_neg (by omega),if_neg (by omega),if_neg (by omega),if_neg (by omega),decide_eq_false h]
  rfl
def isD (x:Int):Bool:=decide (48≤x) && decide (x≤57)
theorem isD_iff (x:Int):isD x=true ↔ 48≤x∧x≤57:=by unfold isD; rw [Bool.and_eq_true,decide_eq_true_eq,decide_eq_true_eq]
def digs (l:List Int):List Int:=l.takeWhile isD
theorem digs_pos {x:Int} {l:List Int} (h:isD x=true):digs (x :: l)=x :: digs l:=List.takeWhile_cons_of_pos h
theorem digs_neg {x:Int} {l:List Int} (h:isD x=false):digs (x :: l)=[]:=List.takeWhile_cons_of_neg (by rw [h]; decide)
theorem digs_at_pos {s:List Int} {i:Nat} (hi:i < s.length) (h:isD s[i]=true):digs (s.drop i)=s[i] :: digs (s.drop (i+1)):=by rw [List.drop_eq_getElem_cons hi,digs_pos h]
theorem digs_at_neg {s:List Int} {i:Nat} (hi:i < s.length) (h:isD s[i]=false):digs (s.drop i)=[]:=by rw [List.drop_eq_getElem_cons hi,digs_neg h]
theorem digs_at_end {s:List Int} {i:Nat} (hi:s.length≤i):digs (s.drop i)=[]:=by rw [List.drop_eq_nil_of_le hi]; rfl
def AllD (l:List Int):Prop:=∀ x∈l,48≤x∧x≤57
theorem digs_all (l:List Int):AllD (digs l):=fun x hx=>(isD_iff x).1 (List.all_eq_true.1 (List.all_takeWhile ..) x hx)
theorem AllD.tail {c:Int} {l:List Int} (h:AllD (c :: l)):AllD l:=fun x hx=>h x (List.mem_cons_of_mem _ hx)
theorem AllD.head {c:Int} {l:List Int} (h:AllD (c :: l)):48≤c∧c≤57:=h c (List.mem_cons_self ..)
theorem digs_len (l:List Int):(digs l).length≤l.length:=(List.takeWhile_sublist _).length_le
theorem digs_take (l:List Int):l.take (digs l).length=digs l:=by
 unfold digs
 have h:=List.takeWhile_append_dropWhile (p:=isD) (l:=l)
 have:l.take (l.takeWhile isD).length=(l.takeWhile isD ++ l.dropWhile isD).take (l.takeWhile isD).length:=by rw [h]
 rw [this,List.take_left]
def dv (a:Int) (l:List Int):Int:=l.foldl (fun n c=>10 * n+(c - 48)) a
theorem dv_cons (a c:Int) (l:List Int):dv a (c :: l)=dv (10 * a+(c - 48)) l:=rfl
theorem dv_app (a:Int) (l m:List Int):dv a (l ++ m)=dv (dv a l) m:=List.foldl_append ..
theorem dv_split:∀ (l:List Int) (a:Int),dv a l=a * 10 ^ l.length+dv 0 l
 | [],a=>by simp [dv]
 | c :: l,a=>by
  rw [dv_cons,dv_cons,dv_split l (10 * a+(c - 48)),dv_split l (10 * 0+(c - 48)),List.length_cons,Int.pow_succ,Int.add_mul,Int.mul_zero,Int.zero_add,← Int.add_assoc]
  congr 2
  rw [Int.mul_comm 10 a,Int.mul_assoc,Int.mul_comm 10]
theorem dv_nonneg:∀ (l:List Int) (a:Int),AllD l→0≤a→0≤dv a l
 | [],a,_,h=>h
 | c :: l,a,hd,h=>dv_nonneg l (10 * a+(c - 48)) hd.tail (by have:=hd.head; omega)
theorem dv_zeros:∀ (l:List Int),dv 0 (l.dropWhile (fun x=>decide (x=48)))=dv 0 l
 | []=>rfl
 | c :: l=>by
  by_cases h:c=48
  ·rw [List.dropWhile_cons_of_pos (by simp [h]),dv_zeros l,dv_cons,h]; rfl
  ·rw [List.dropWhile_cons_of_neg (by simp [h])]
theorem dv_lt:∀ (l:List Int),AllD l→dv 0 l < 10 ^ l.length
 | [],_=>by simp [dv]
 | c :: l,hd=>by
  have h1:=dv_lt l hd.tail
  have h2:=hd.head
  rw [dv_cons,dv_split,List.length_cons,Int.pow_succ]
  have:(10 * 0+(c - 48)) * 10 ^ l.length≤9 * 10 ^ l.length:=Int.mul_le_mul_of_nonneg_right (by omega) (Int.le_of_lt (Int.pow_pos (by omega)))
  omega
theorem dv_big {l:List Int} (hd:AllD l) (h0:∀ c r,l=c :: r→c ≠ 48) (h:7 < l.length):10000000≤dv 0 l:=by
 cases l with
 | nil=>cases h
 | cons c r =>
  have h1:=hd.head
  have h2:=h0 c r rfl
  have h3:=dv_nonneg r 0 hd.tail (Int.le_refl 0)
  rw [dv_cons,dv_split]
  simp only [List.length_cons] at h
  have h4:(10:Int) ^ 7≤10 ^ r.length:=by
   have:(10:Nat) ^ 7≤10 ^ r.length:=Nat.pow_le_pow_right (by omega) (by omega)
   exact_mod_cast this
  have h5:1 * (10:Int) ^ r.length≤(10 * 0+(c - 48)) * 10 ^ r.length:=Int.mul_le_mul_of_nonneg_right (by omega) (Int.le_of_lt (Int.pow_pos (by omega)))
  omega
def fr:List Int→Int→Int
 | [],_=>0
 | c :: l,u=>(c - 48) * u+fr l (u / 10)
theorem fr_zero:∀ l:List Int,fr l 0=0
 | []=>rfl
 | c :: l=>by show (c - 48) * 0+fr l (0 / 10)=0; rw [Int.mul_zero,show (0:Int) / 10=0 from rfl,fr_zero l]; rfl
def unit:Nat→Int
 | 0=>0
 | k+1=>10 ^ k
theorem unit_div (k:Nat):unit (k+1) / 10=unit k:=by
 cases k with
 | zero=>rfl
 | succ k=>show (10:Int) ^ (k+1) / 10=10 ^ k; rw [Int.pow_succ]; omega
theorem dv_rep:∀ k:Nat,dv 0 (List.replicate k 48)=0
 | 0=>rfl
 | k+1=>by rw [List.replicate_succ,dv_cons]; exact dv_rep k
theorem fr_dv:∀ (l:List Int) (k m:Nat),k≤m→fr l (unit k)=dv 0 ((l ++ List.replicate m 48).take k)
 | [],k,m,h=>by rw [List.nil_append,List.take_replicate,Nat.min_eq_left h,dv_rep]; rfl
 | c :: l,0,m,h=>by rw [List.take_zero]; exact fr_zero _
 | c :: l,k+1,m,h=>by
  rw [List.cons_append,List.take_succ_cons,dv_cons,dv_split,List.length_take,List.length_append,List.length_replicate,Nat.min_eq_left (by omega),← fr_dv l k m (by omega)]
  show (c - 48) * 10 ^ k+fr l (unit (k+1) / 10)=_
  rw [unit_div,Int.mul_zero,Int.zero_add]
theorem fr_bd (l:List Int) (hd:AllD l):0≤fr l 100000∧fr l 100000 < 1000000:=by
 have e:fr l 100000=dv 0 ((l ++ List.replicate 6 48).take 6):=fr_dv l 6 6 (Nat.le_refl 6)
 have hd':AllD ((l ++ List.replicate 6 48).take 6):=fun x hx=>by
  rcases List.mem_append.1 (List.mem_of_mem_take hx) with h | h
  ·exact hd x h
  ·rw [(List.mem_replicate.1 h).2]; omega
 have h1:=dv_lt _ hd'
 have h2:((l ++ List.replicate 6 48).take 6).length=6:=by rw [List.length_take,List.length_append,List.length_replicate]; omega
 rw [h2] at h1
 rw [e]
 exact ⟨dv_nonneg _ _ hd' (Int.le_refl 0),h1⟩
def sat:Int→List Int→Int
 | n,[]=>n
 | n,c :: l=>if n≤9000000000000 then sat (10 * n+(c - 48) * 1000000) l else sat n l
theorem sat_big:∀ (l:List Int) (n:Int),9000000000000 < n→sat n l=n
 | [],n,_=>rfl
 | c :: l,n,h=>by unfold sat; rw [if_neg (by omega)]; exact sat_big l n h
theorem sat_val:∀ (l:List Int) (a:Int),AllD l→0≤a→(sat (a * 1000000) l=dv a l * 1000000)∨(9000000000000 < sat (a * 1000000) l∧9000000000000 < dv a l * 1000000)
 | [],a,_,_=>.inl rfl
 | c :: l,a,hd,h=>by
  have hc:=hd.head
  unfold sat
  rw [dv_cons]
  by_cases hn:a * 1000000≤9000000000000
  ·rw [if_pos hn,show 10 * (a * 1000000)+(c - 48) * 1000000=(10 * a+(c - 48)) * 1000000 by omega]
   exact sat_val l _ hd.tail (by omega)
  ·rw [if_neg hn,sat_big _ _ (by omega)]
   refine .inr ⟨by omega,?_⟩
   have h1:=dv_nonneg l 0 hd.tail (Int.le_refl 0)
   have h2:a * 1≤(10 * a+(c - 48)) * 10 ^ l.length:=Int.mul_le_mul (by omega) (by have:(0:Int) < 10 ^ l.length:=Int.pow_pos (by omega); omega) (by omega) (by omega)
   rw [dv_split]
   omega
theorem trimLeftByte_ok (c:Int):∀ l:List Int,l.length≤4294967296→x_strings_trimLeftByte_L1 l c=some (l.dropWhile (fun x=>decide (x=c)),())
 | [],h=>by rw [x_strings_trimLeftByte_L1_eq,if_neg (by simp)]; rfl
 | x :: l,h=>by
  simp only [List.length_cons] at h
  rw [x_strings_trimLeftByte_L1_eq,if_pos (decide_eq_true (by simp only [List.length_cons]; omega)),if_pos (by simp only [List.length_cons]; omega)]
  by_cases hx:x=c
  ·rw [if_pos (by simp [hx]),if_pos (by simp only [List.length_cons]; omega),List.dropWhile_cons_of_pos (by simp [hx])]
   have:List.take ((x :: l).length - 1) (List.drop 1 (x :: l))=l:=by simp
   rw [this]
   exact trimLeftByte_ok c l (by omega)
  ·rw [if_neg (by simpa using hx),List.dropWhile_cons_of_neg (by simpa using hx)]
theorem TrimLeft_ok (l:List Int) (c:Int) (hc:c < 128) (h:l.length≤4294967296):x_strings_TrimLeft l [c]=some (l.dropWhile (fun x=>decide (x=c)),()):=by
 rw [x_strings_TrimLeft_eq]
 by_cases h0:l=[]
 ·rw [if_pos (decide_eq_true h0),h0]; rfl
 ·rw [if_neg (by rw [decide_eq_true_eq]; exact h0),if_neg (by simp),if_pos (by simp),if_pos (by simp),if_pos (by simpa using hc),if_pos (by simp),x_strings_trimLeftByte_eq]
  show Option.bind (x_strings_trimLeftByte_L1 l c) _=_
  rw [trimLeftByte_ok c l h]; rfl
theorem trimRightByte_ok (c:Int):∀ (n:Nat) (l:List Int),l.length=n→l.length≤4294967296→∃ r,x_strings_trimRightByte_L1 l c=some (r,())∧r.length≤l.length∧((∀ x∈r,x=c) ↔ ∀ x∈l,x=c):=by
 intro n
 induction n with
 | zero =>
  intro l hl h
  have:l=[]:=List.eq_nil_of_length_eq_zero hl
  subst this
  exact ⟨[],by rw [x_strings_trimRightByte_L1_eq,if_neg (by simp)],Nat.le_refl _,Iff.rfl⟩
 | succ n ih =>
  intro l hl h
  rw [x_strings_trimRightByte_L1_eq,if_pos (decide_eq_true (by omega)),w64_id (by omega) (by omega),if_pos (by omega),show ((l.length:Int) - 1).toNat=l.length - 1 by omega,getD_lt (by omega)]
  by_cases hx:l[l.length - 1]=c
  ·rw [if_pos (decide_eq_true hx),if_pos (by omega)]
   have e:List.take (l.length - 1 - 0) (List.drop 0 l)=l.take (l.length - 1):=rfl
   rw [e]
   obtain ⟨r,r1,r2,r3⟩:=ih (l.take (l.length - 1)) (by rw [List.length_take]; omega) (by rw [List.length_take]; omega)
   have hs:l=l.take (l.length - 1) ++ [c]:=by
    have h1:=List.take_append_drop (l.length - 1) l
    have h2:l.drop (l.length - 1)=[l[l.length - 1]]:=by
     rw [List.drop_eq_getElem_cons (by omega),List.drop_eq_nil_of_le (by omega)]
    rw [h2,hx] at h1
    exact h1.symm
   rw [List.length_take] at r2
   refine ⟨r,r1,by omega,r3.trans ?_⟩
   constructor
   ·intro h5 x hx5
    rw [hs] at hx5
    rcases List.mem_append.1 hx5 with h6 | h6
    ·exact h5 x h6
    ·exact List.mem_singleton.1 h6
   ·intro h5 x hx5
    exact h5 x (List.mem_of_mem_take hx5)
  ·rw [if_neg (by rw [decide_eq_true_eq]; exact hx)]
   exact ⟨l,rfl,Nat.le_refl _,Iff.rfl⟩
theorem dropWhile_nil (c:Int):∀ l:List Int,l.dropWhile (fun x=>decide (x=c))=[] ↔ ∀ x∈l,x=c
 | []=>by simp
 | a :: l=>by
  by_cases h:a=c
  ·rw [List.dropWhile_cons_of_pos (by simp [h]),dropWhile_nil c l]
   simp [h]
  ·rw [List.dropWhile_cons_of_neg (by simp [h])]
   simp [h]
theorem Trim_ok (l:List Int) (h:l.length≤4294967296):∃ r,x_strings_Trim l [32]=some (r,())∧(r=[] ↔ ∀ x∈l,x=32):=by
 rw [x_strings_Trim_eq]
 by_cases h0:l=[]
 ·rw [if_pos (decide_eq_true h0)]; exact ⟨l,rfl,by simp [h0]⟩
 ·obtain ⟨r,r1,r2,r3⟩:=trimRightByte_ok 32 l.length l rfl h
  rw [if_neg (by rw [decide_eq_true_eq]; exact h0),if_neg (by simp),if_pos (by simp),if_pos (by simp),if_pos (by simp),if_pos (by simp),x_strings_trimRightByte_eq]
  show ∃ x,(Option.bind (x_strings_trimRightByte_L1 l 32) _)=some (x,())∧_
  rw [r1,Option.bind_some,if_pos (by simp),x_strings_trimLeftByte_eq]
  show ∃ x,(Option.bind (x_strings_trimLeftByte_L1 r 32) _)=some (x,())∧_
  rw [trimLeftByte_ok 32 r (by omega)]
  exact ⟨_,rfl,(dropWhile_nil 32 r).trans r3⟩
theorem atoi_L2_ok (t:List Int) (ht:t.length≤18) (hd:AllD t) (h0:∀ c r,t=c :: r→c ≠ 45) (hne:t ≠ []):∀ (d i:Nat) (n:Int),i+d=t.length→0≤n→n < 10 ^ i→x_internal_strconv_Atoi_L2 t n t (t.length:Int) (i:Int)=some (dv n (t.drop i),(),()):=by
 intro d
 induction d with
 | zero =>
  intro i n hi n0 n1
  rw [x_internal_strconv_Atoi_L2_eq,if_neg (by rw [decide_eq_true_eq]; omega),if_pos (by have:=List.length_pos_iff.2 hne; omega),List.drop_eq_nil_of_le (by omega)]
  cases t with
  | nil=>exact absurd rfl hne
  | cons c r=>rw [if_neg (by have:=h0 c r rfl; simpa using this)]; rfl
 | succ d ih =>
  intro i n hi n0 n1
  have hlt:i < t.length:=by omega
  have hx:=hd _ (List.getElem_mem hlt)
  have hp:(10:Int) ^ i≤10 ^ 17:=by
   have:(10:Nat) ^ i≤10 ^ 17:=Nat.pow_le_pow_right (by omega) (by omega)
   exact_mod_cast this
  have hp1:(10:Int) ^ (i+1)=10 ^ i * 10:=Int.pow_succ ..
  have e8:w8 (t[i] - 48)=t[i] - 48:=w8_id (by omega) (by omega)
  rw [x_internal_strconv_Atoi_L2_eq,if_pos (decide_eq_true (by omega)),if_pos (by omega),getD_nat hlt,e8,if_neg (by rw [decide_eq_true_eq]; omega),w64_id (n:=n * 10) (by omega) (by omega),w64_id (n:=t[i] - 48) (by omega) (by omega),w64_id (by omega) (by omega),w64_succ hlt (by omega),ih (i+1) _ (by omega) (by omega) (by omega),List.drop_eq_getElem_cons hlt,dv_cons,Int.mul_comm n 10]
theorem atoi_ok (t:List Int) (ht:t.length≤18) (hd:AllD t) (hne:t ≠ []):x_strconv_Atoi t=some (dv 0 t,(),()):=by
 have hp:=List.length_pos_iff.2 hne
 have h0:∀ c r,t=c :: r→c ≠ 45∧c ≠ 43:=fun c r h=>by
  subst h; have:=hd.head; omega
 have hg:∀ z,t.getD 0 z ≠ 45∧t.getD 0 z ≠ 43:=fun z=>by
  cases t with
  | nil=>exact absurd rfl hne
  | cons c r=>exact h0 c r rfl
 rw [x_strconv_Atoi_eq,x_internal_strconv_Atoi_eq,if_pos (decide_eq_true (by omega)),if_pos (decide_eq_true (by omega)),if_pos (by omega),if_neg (by rw [decide_eq_true_eq]; exact (hg 0).1),if_pos (by omega),if_neg (by rw [decide_eq_true_eq]; exact (hg 0).2),x_internal_strconv_Atoi_L1_eq,if_pos (by rw [room_eq]; omega)]
 have:=atoi_L2_ok t ht hd (fun c r h=>(h0 c r h).1) hne t.length 0 0 (by omega) (by omega) (by simp)
 rw [show (((0:Nat)):Int)=0 from rfl,List.drop_zero] at this
 rw [this]; rfl
theorem i_DecOk_ok (n:Int):i_DecOk n=some (decide (-9000000000000≤n∧n≤9000000000000),()):=by rw [i_DecOk_eq,i_in_ok]; rfl
theorem i_right_ok (n:Int):i_right n=some (if -9000000000000≤n∧n≤9000000000000 then (n,true,()) else (0,false,())):=by
 rw [i_right_eq,i_DecOk_ok,Option.bind_some]
 by_cases h:-9000000000000≤n∧n≤9000000000000
 ·rw [decide_eq_true h,if_neg (by simp),if_pos h]
 ·rw [decide_eq_false h,if_pos (by simp),if_neg h]
theorem millionths_ok (w r:List Int) (hw:AllD w) (hr:AllD r) (lw:w.length≤1000000) (lr:r.length≤1000000):i_millionths w r=some (if dv 0 w * 1000000+fr r 100000≤9000000000000 then (dv 0 w * 1000000+fr r 100000,true,()) else (0,false,())):=by
 rw [i_millionths_eq,TrimLeft_ok _ _ (by omega) (by omega),Option.bind_some]
 have hb:=fr_bd r hr
 have hz:=dv_zeros w
 have hT:AllD (w.dropWhile (fun x=>decide (x=48))):=fun x hx=>hw x ((List.dropWhile_sublist _).subset hx)
 have hTl:(w.dropWhile (fun x=>decide (x=48))).length≤w.length:=(List.dropWhile_sublist _).length_le
 have hT0:∀ c r,w.dropWhile (fun x=>decide (x=48))=c :: r→c ≠ 48:=fun c r h=>by
  have:=List.head?_dropWhile_not (fun x=>decide (x=48)) w
  rw [h] at this
  simpa using this
 generalize w.dropWhile (fun x=>decide (x=48))=T at *
 rw [if_pos (by simp only [List.length_cons,List.length_nil]; omega),if_pos (by rw [List.length_append]; simp only [List.length_cons,List.length_nil]; omega)]
 by_cases h7:(T.length:Int) > 7
 ·have:=dv_big hT hT0 (by omega)
  rw [if_pos (decide_eq_true h7),if_neg (by omega)]
 ·have e6:List.take (6 - 0) (List.drop 0 (r ++ [48,48,48,48,48,48]))=(r ++ List.replicate 6 48).take 6:=rfl
  have hR:AllD ((r ++ List.replicate 6 48).take 6):=fun x hx=>by
   rcases List.mem_append.1 (List.mem_of_mem_take hx) with h | h
   ·exact hr x h
   ·rw [(List.mem_replicate.1 h).2]; omega
  have hRl:((r ++ List.replicate 6 48).take 6).length=6:=by rw [List.length_take,List.length_append,List.length_replicate]; omega
  have hRv:dv 0 ((r ++ List.replicate 6 48).take 6)=fr r 100000:=(fr_dv r 6 6 (Nat.le_refl 6)).symm
  rw [e6,if_neg (by rw [decide_eq_true_eq]; exact h7)]
  generalize (r ++ List.replicate 6 48).take 6=R at *
  rw [if_pos (by simp only [List.length_cons,List.length_nil]; omega),if_pos (by simp only [List.length_append,List.length_cons,List.length_nil]; omega)]
  have hall:AllD (([48] ++ T) ++ R):=fun x hx=>by
   rcases List.mem_append.1 hx with h | h
   ·rcases List.mem_append.1 h with h | h
    ·rw [List.mem_singleton.1 h]; omega
    ·exact hT x h
   ·exact hR x h
  rw [atoi_ok _ (by simp only [List.length_append,List.length_cons,List.length_nil]; omega) hall (by simp),Option.bind_some]
  have ev:dv 0 (([48] ++ T) ++ R)=dv 0 w * 1000000+fr r 100000:=by
   rw [dv_app,dv_app,dv_split,hRl,hRv,show dv 0 [48]=0 from rfl,hz]; rfl
  have hn:=dv_nonneg w 0 hw (Int.le_refl 0)
  rw [ev,i_right_ok,Option.bind_some]
  by_cases hm:dv 0 w * 1000000+fr r 100000≤9000000000000
  ·rw [if_pos hm,if_pos ⟨by omega,hm⟩]
  ·rw [if_neg hm,if_neg (fun x=>hm x.2)]
def Bt (b:List Int):Prop:=∀ x∈b,0≤x∧x≤255
theorem l2Digit_ok (x:Int):s_l2Digit x=some (isD x,()):=by
 rw [s_l2Digit_eq]
 unfold isD
 by_cases h:x ≥ 48
 ·rw [if_pos (decide_eq_true h),show decide (48≤x)=true from decide_eq_true h,Bool.true_and]
 ·rw [if_neg (by rw [decide_eq_true_eq]; exact h),show decide (48≤x)=false from decide_eq_false h,Bool.false_and]
def fin (p:Int) (b:Bool) (n m:Int):Option (Int × Int × Unit):=if m=0 then some (0,0,()) else if n > 9000000000000 then some (0,0,()) else some (if b=true then 0 - n else n,p,())
theorem L5_ok (p:Int) (b:Bool) (n m:Int) (h0:0≤n):s_DecFront_L5 p b n m=fin p b n m:=by
 rw [s_DecFront_L5_eq]
 unfold fin
 by_cases h1:m=0
 ·rw [if_pos (decide_eq_true h1),if_pos h1]
 ·rw [if_neg (by rw [decide_eq_true_eq]; exact h1),if_neg h1]
  by_cases h2:n > 9000000000000
  ·rw [if_pos (decide_eq_true h2),if_pos h2]
  ·rw [if_neg (by rw [decide_eq_true_eq]; exact h2),if_neg h2,w64_id (by omega) (by omega)]
   cases b <;> rfl
theorem L4_ok (s:List Int) (hs:s.length≤1000000) (b:Bool):∀ (d i:Nat) (n m u:Int),i+d=s.length→0≤n→0≤u→u≤100000→n≤200000000000000+1000000 * i→0≤m→m≤2000000+i →
  ∃ n',s_DecFront_L4 s (i:Int) b n m u=s_DecFront_L5 ((i+(digs (s.drop i)).length:Nat):Int) b n' (m+(digs (s.drop i)).length)∧n'=n+fr (digs (s.drop i)) u:=by
 intro d
 induction d with
 | zero =>
  intro i n m u hd h0 hu hu2 hn hm hm2
  rw [digs_at_end (show s.length≤i by omega)]
  refine ⟨n,?_,by show n=n+0; omega⟩
  rw [s_DecFront_L4_eq,if_neg (by rw [decide_eq_true_eq]; omega)]
  simp
 | succ d ih =>
  intro i n m u hd h0 hu hu2 hn hm hm2
  have hi:i < s.length:=by omega
  rw [s_DecFront_L4_eq,if_pos (decide_eq_true (by omega)),if_pos (by omega),getD_nat hi,l2Digit_ok,Option.bind_some]
  cases hx:isD s[i] with
  | true =>
   have hxb:=(isD_iff _).1 hx
   have hmul:0≤(s[i] - 48) * u∧(s[i] - 48) * u≤900000:=by
    have h1:(s[i] - 48) * u≤9 * u:=Int.mul_le_mul_of_nonneg_right (by omega) hu
    exact ⟨Int.mul_nonneg (by omega) hu,by omega⟩
   rw [if_pos rfl,if_pos (by omega),Int.tdiv_eq_ediv_of_nonneg hu,w64_id (n:=s[i]) (by omega) (by omega),w64_id (n:=s[i] - 48) (by omega) (by omega),w64_id (n:=(s[i] - 48) * u) (by omega) (by omega),w64_id (n:=n+(s[i] - 48) * u) (by omega) (by omega),w64_id (n:=m+1) (by omega) (by omega),w64_id (n:=u / 10) (by omega) (by omega),w64_succ hi (by omega)]
   obtain ⟨n',e1,e2⟩:=ih (i+1) (n+(s[i] - 48) * u) (m+1) (u / 10) (by omega) (by omega) (by omega) (by omega) (by omega) (by omega) (by omega)
   rw [digs_at_pos hi hx,List.length_cons]
   refine ⟨n',?_,?_⟩
   ·rw [e1]
    congr 1
    ·omega
    ·omega
   ·rw [e2]
    show _=n+((s[i] - 48) * u+fr _ (u / 10))
    omega
  | false =>
   rw [if_neg (by simp),digs_at_neg hi hx]
   exact ⟨n,by simp,by show n=n+0; omega⟩
def frac (s:List Int) (p:Nat):List Int:=if s[p]? = some 46 then digs (s.drop (p+1)) else []
def endOf (s:List Int) (p:Nat):Nat:=if frac s p=[] then p else p+1+(frac s p).length
theorem L3_end (s:List Int) (hs:s.length≤1000000) (b:Bool) (p:Nat) (hp:p≤s.length) (n m:Int) (h0:0≤n) (hn:n≤100000000000000) (hm:0≤m) (hm2:m≤1000000) :
  (if (decide ((w64 ((p:Int)+1)) < (List.length s:Int)))=true then
   if (0:Int)≤(p:Int)∧(p:Int) < (List.length s:Int) then
    if (decide ((List.getD s (p:Int).toNat 0)=46))=true then
     if (0:Int)≤(w64 ((p:Int)+1))∧(w64 ((p:Int)+1)) < (List.length s:Int) then
      (s_l2Digit (List.getD s (w64 ((p:Int)+1)).toNat 0)).bind fun (r2:Bool × Unit) =>
      if r2.1=true then
       s_DecFront_L4 s (w64 ((p:Int)+1)) b n m 100000
      else
       s_DecFront_L5 (p:Int) b n m
     else none
    else
     s_DecFront_L5 (p:Int) b n m
   else none
  else
   s_DecFront_L5 (p:Int) b n m)=fin (endOf s p) b (n+fr (frac s p) 100000) (m+(frac s p).length):=by
 have hw:w64 ((p:Int)+1)=((p+1:Nat):Int):=w64_succ (n:=1000001) (by omega) (by omega)
 rw [hw]
 have none:frac s p=[]→s_DecFront_L5 (p:Int) b n m=fin (endOf s p) b (n+fr (frac s p) 100000) (m+(frac s p).length):=by
  intro h
  unfold endOf
  rw [h,if_pos rfl,L5_ok _ _ _ _ h0]
  show fin p b n m=fin p b (n+0) (m+(0:Nat))
  congr 1
  ·omega
  ·omega
 by_cases h1:((p+1:Nat):Int) < (s.length:Int)
 ·have hp1:p < s.length:=by omega
  have hp2:p+1 < s.length:=by omega
  rw [if_pos (decide_eq_true h1),if_pos (by omega),getD_nat hp1]
  by_cases h2:s[p]=46
  ·rw [if_pos (decide_eq_true h2),if_pos (by omega),getD_nat hp2,l2Digit_ok,Option.bind_some]
   have hf:frac s p=digs (s.drop (p+1)):=by unfold frac; rw [List.getElem?_eq_getElem hp1,h2,if_pos rfl]
   cases hx:isD s[p+1] with
   | true =>
    rw [if_pos rfl]
    obtain ⟨n',e1,e2⟩:=L4_ok s hs b (s.length - (p+1)) (p+1) n m 100000 (by omega) h0 (by omega) (by omega) (by omega) hm (by omega)
    have hb:=fr_bd _ (digs_all (s.drop (p+1)))
    have hne:frac s p ≠ []:=by
     rw [hf,digs_at_pos hp2 hx]
     exact List.cons_ne_nil _ _
    rw [e1,e2,L5_ok _ _ _ _ (by omega),hf]
    unfold endOf
    rw [if_neg hne,hf]
   | false =>
    rw [if_neg (by simp)]
    refine none ?_
    rw [hf,digs_at_neg hp2 hx]
  ·rw [if_neg (by rw [decide_eq_true_eq]; exact h2)]
   refine none ?_
   unfold frac
   rw [List.getElem?_eq_getElem hp1,if_neg (by simpa using h2)]
 ·rw [if_neg (by rw [decide_eq_true_eq]; exact h1)]
  refine none ?_
  unfold frac
  split
  ·exact digs_at_end (by omega)
  ·rfl
theorem L3_ok (s:List Int) (hs:s.length≤1000000) (hb:Bt s) (b:Bool):∀ (d i:Nat) (n m:Int),i+d=s.length→0≤n→n≤100000000000000→0≤m→m≤i →
  s_DecFront_L3 s (i:Int) b n m=fin (endOf s (i+(digs (s.drop i)).length)) b (sat n (digs (s.drop i))+fr (frac s (i+(digs (s.drop i)).length)) 100000) (m+(digs (s.drop i)).length+(frac s (i+(digs (s.drop i)).length)).length):=by
 intro d
 induction d with
 | zero =>
  intro i n m hd h0 hn hm hm2
  rw [s_DecFront_L3_eq,if_neg (by rw [decide_eq_true_eq]; omega),L3_end s hs b i (by omega) n m h0 hn hm (by omega),digs_at_end (show s.length≤i by omega)]
  simp [sat]
 | succ d ih =>
  intro i n m hd h0 hn hm hm2
  have hi:i < s.length:=by omega
  have hx0:=hb _ (List.getElem_mem hi)
  rw [s_DecFront_L3_eq,if_pos (decide_eq_true (by omega)),if_pos (by omega)]
  have hg:List.getD s (i:Int).toNat 0=s[i]:=getD_nat hi 0
  rw [hg,l2Digit_ok,Option.bind_some]
  cases hx:isD s[i] with
  | true =>
   have hxb:=(isD_iff _).1 hx
   have hdg:digs (s.drop i)=s[i] :: digs (s.drop (i+1)):=digs_at_pos hi hx
   rw [if_pos rfl,hdg]
   simp only [List.length_cons,sat]
   have el:i+((digs (s.drop (i+1))).length+1)=i+1+(digs (s.drop (i+1))).length:=by omega
   rw [el,w64_succ hi (by omega),w64_id (n:=m+1) (by omega) (by omega)]
   by_cases hmx:n≤9000000000000
   ·rw [if_pos (decide_eq_true hmx),if_pos (by omega),if_pos hmx,w64_id (n:=10 * n) (by omega) (by omega),w64_id (n:=s[i]) (by omega) (by omega),w64_id (n:=s[i] - 48) (by omega) (by omega),w64_id (n:=(s[i] - 48) * 1000000) (by omega) (by omega),w64_id (n:=10 * n+(s[i] - 48) * 1000000) (by omega) (by omega),
     ih (i+1) _ (m+1) (by omega) (by omega) (by omega) (by omega) (by omega)]
    congr 1
    omega
   ·rw [if_neg (by rw [decide_eq_true_eq]; exact hmx),if_neg hmx,ih (i+1) n (m+1) (by omega) h0 hn (by omega) (by omega)]
    congr 1
    omega
  | false =>
   have hdg:digs (s.drop i)=[]:=digs_at_neg hi hx
   rw [if_neg (by simp),hdg]
   have he:=L3_end s hs b i (by omega) n m h0 hn hm (by omega)
   rw [hg] at he
   simp only [List.length_nil,Nat.add_zero,sat]
   rw [he]
   congr 1
   omega
theorem digitsAt_ok (s:List Int) (hs:s.length≤1000000):∀ (d p j:Nat),p+j+d=s.length+1→i_digitsAt_L1 s (p:Int) (j:Int)=some (((j+(digs (s.drop (p+j))).length:Nat):Int),()):=by
 intro d
 induction d with
 | zero =>
  intro p j hd
  rw [i_digitsAt_L1_eq,w64_id (by omega) (by omega),if_neg (by rw [decide_eq_true_eq]; omega),digs_at_end (by omega)]
  simp
 | succ d ih =>
  intro p j hd
  rw [i_digitsAt_L1_eq,w64_id (n:=(p:Int)+j) (by omega) (by omega)]
  by_cases hlt:(p:Int)+j < (s.length:Int)
  ·have hi:p+j < s.length:=by omega
   have hg:List.getD s ((p:Int)+j).toNat 0=s[p+j]:=by
    rw [show ((p:Int)+j).toNat=p+j by omega]; exact getD_lt hi 0
   rw [if_pos (decide_eq_true hlt),if_pos (by omega),hg,w64_succ (n:=1000001) (by omega) (by omega)]
   by_cases h1:s[p+j] ≥ 48
   ·rw [if_pos (decide_eq_true h1),if_pos (by omega)]
    by_cases h2:s[p+j]≤57
    ·have hx:isD s[p+j]=true:=(isD_iff _).2 ⟨h1,h2⟩
     rw [if_pos (decide_eq_true h2),ih p (j+1) (by omega),digs_at_pos hi hx,List.length_cons,show p+(j+1)=p+j+1 by omega]
     congr 3
     omega
    ·have hx:isD s[p+j]=false:=by
      cases h:isD s[p+j] with
      | false=>rfl
      | true=>exact absurd ((isD_iff _).1 h).2 h2
     rw [if_neg (by rw [decide_eq_true_eq]; exact h2),digs_at_neg hi hx]
     simp
   ·have hx:isD s[p+j]=false:=by
     cases h:isD s[p+j] with
     | false=>rfl
     | true=>exact absurd ((isD_iff _).1 h).1 h1
    rw [if_neg (by rw [decide_eq_true_eq]; exact h1),digs_at_neg hi hx]
    simp
  ·rw [if_neg (by rw [decide_eq_true_eq]; exact hlt),digs_at_end (by omega)]
   simp
theorem i_L2_ok (p:Int) (b:Bool) (w r:List Int) (hw:AllD w) (hr:AllD r) (lw:w.length≤1000000) (lr:r.length≤1000000):i_DecFront_L2 p b w r=fin p b (dv 0 w * 1000000+fr r 100000) ((w.length:Int)+r.length):=by
 have hb:=fr_bd r hr
 have hn:=dv_nonneg w 0 hw (Int.le_refl 0)
 have tail:0 < w.length+r.length→((i_millionths w r).bind fun (r1:Int × Bool × Unit)=>if (!r1.2.1)=true then some ((0:Int),(0:Int),()) else if b=true then some ((w64 (0 - r1.1)),p,()) else some (r1.1,p,()))=fin p b (dv 0 w * 1000000+fr r 100000) ((w.length:Int)+r.length):=by
  intro hl
  rw [millionths_ok w r hw hr lw lr,Option.bind_some]
  unfold fin
  rw [if_neg (show ¬ (w.length:Int)+r.length=0 by omega)]
  by_cases h:dv 0 w * 1000000+fr r 100000≤9000000000000
  ·rw [if_pos h]
   dsimp only
   rw [if_neg (show ¬ (!true)=true by decide),if_neg (show ¬ dv 0 w * 1000000+fr r 100000 > 9000000000000 by omega),w64_id (by omega) (by omega)]
   cases b <;> rfl
  ·rw [if_neg h]
   dsimp only
   rw [if_pos (show (!false)=true by decide),if_pos (by omega)]
 rw [i_DecFront_L2_eq]
 by_cases h1:w=[]
 ·rw [if_pos (decide_eq_true h1)]
  by_cases h2:r=[]
  ·rw [if_pos (decide_eq_true h2),h1,h2]; rfl
  ·rw [if_neg (by rw [decide_eq_true_eq]; exact h2)]
   exact tail (by have:=List.length_pos_iff.2 h2; omega)
 ·rw [if_neg (by rw [decide_eq_true_eq]; exact h1)]
  exact tail (by have:=List.length_pos_iff.2 h1; omega)
theorem i_L1_ok (s:List Int) (hs:s.length≤1000000) (b:Bool) (i:Nat) (hi:i≤s.length) :
  i_DecFront_L1 s (i:Int) b=fin (endOf s (i+(digs (s.drop i)).length)) b (dv 0 (digs (s.drop i)) * 1000000+fr (frac s (i+(digs (s.drop i)).length)) 100000) ((digs (s.drop i)).length+(frac s (i+(digs (s.drop i)).length)).length):=by
 have hdl:=digs_len (s.drop i)
 rw [List.length_drop] at hdl
 have hD:=digs_all (s.drop i)
 rw [i_DecFront_L1_eq,i_digitsAt_eq,show (0:Int)=((0:Nat):Int) from rfl,digitsAt_ok s hs (s.length+1 - i) i 0 (by omega),Option.bind_some,Nat.zero_add,Nat.add_zero]
 dsimp only
 rw [w64_id (by omega) (by omega)]
 have hcut:List.take (((i:Int)+((digs (s.drop i)).length:Nat)).toNat - (i:Int).toNat) (List.drop (i:Int).toNat s)=digs (s.drop i):=by
  rw [show ((i:Int)+((digs (s.drop i)).length:Nat)).toNat - (i:Int).toNat=(digs (s.drop i)).length by omega,Int.toNat_natCast]
  exact digs_take _
 rw [hcut]
 generalize hDD:digs (s.drop i)=D at *
 have hz:(((0:Nat)):Int)=0:=rfl
 rw [hz,if_pos (by omega)]
 have hp:(i:Int)+(D.length:Nat)=((i+D.length:Nat):Int):=by omega
 rw [hp]
 generalize hP:i+D.length=P at *
 have none:frac s P=[]→i_DecFront_L2 (P:Int) b D []=fin (endOf s P) b (dv 0 D * 1000000+fr (frac s P) 100000) (D.length+(frac s P).length):=by
  intro h
  rw [i_L2_ok _ _ _ _ hD (fun x hx=>by cases hx) (by omega) (by simp)]
  unfold endOf
  rw [h,if_pos rfl]
 by_cases h1:(P:Int) < (s.length:Int)
 ·have hP1:P < s.length:=by omega
  rw [if_pos (decide_eq_true h1),if_pos (by omega),getD_nat hP1]
  by_cases h2:s[P]=46
  ·have hw:w64 ((P:Int)+1)=((P+1:Nat):Int):=w64_succ hP1 (by omega)
   have hf:frac s P=digs (s.drop (P+1)):=by unfold frac; rw [List.getElem?_eq_getElem hP1,h2,if_pos rfl]
   have hfl:=digs_len (s.drop (P+1))
   rw [List.length_drop] at hfl
   have hF:=digs_all (s.drop (P+1))
   rw [if_pos (decide_eq_true h2),hw,i_digitsAt_eq,show (0:Int)=((0:Nat):Int) from rfl,digitsAt_ok s hs (s.length - P) (P+1) 0 (by omega),Option.bind_some,Nat.zero_add,Nat.add_zero]
   dsimp only
   rw [hz,w64_id (n:=1+(((digs (s.drop (P+1))).length:Nat):Int)) (by omega) (by omega),w64_id (n:=((P+1:Nat):Int)+(((digs (s.drop (P+1))).length:Nat):Int)) (by omega) (by omega),w64_id (n:=(P:Int)+(1+(((digs (s.drop (P+1))).length:Nat):Int))) (by omega) (by omega)]
   have hcut2:List.take ((((P+1:Nat):Int)+((digs (s.drop (P+1))).length:Nat)).toNat - ((P+1:Nat):Int).toNat) (List.drop ((P+1:Nat):Int).toNat s)=digs (s.drop (P+1)):=by
    rw [show (((P+1:Nat):Int)+((digs (s.drop (P+1))).length:Nat)).toNat - ((P+1:Nat):Int).toNat=(digs (s.drop (P+1))).length by omega,Int.toNat_natCast]
    exact digs_take _
   rw [hcut2]
   generalize hFF:digs (s.drop (P+1))=F at *
   by_cases h3:(F.length:Int) > 0
   ·rw [if_pos (decide_eq_true h3),if_pos (by omega),i_L2_ok _ _ _ _ hD hF (by omega) (by omega)]
    unfold endOf
    rw [hf,if_neg (fun h=>by rw [h] at h3; simp at h3)]
    congr 1
    omega
   ·rw [if_neg (by rw [decide_eq_true_eq]; exact h3)]
    exact none (by rw [hf]; exact List.eq_nil_of_length_eq_zero (by omega))
  ·rw [if_neg (by rw [decide_eq_true_eq]; exact h2)]
   refine none ?_
   unfold frac
   rw [List.getElem?_eq_getElem hP1,if_neg (by simpa using h2)]
 ·rw [if_neg (by rw [decide_eq_true_eq]; exact h1)]
  refine none ?_
  unfold frac
  split
  ·exact digs_at_end (by omega)
  ·rfl
theorem s_i_same (s:List Int) (hs:s.length≤1000000) (hb:Bt s) (b:Bool) (i:Nat) (hi:i≤s.length):s_DecFront_L2 s (i:Int) b=i_DecFront_L1 s (i:Int) b:=by
 rw [s_DecFront_L2_eq,L3_ok s hs hb b (s.length - i) i 0 0 (by omega) (by omega) (by omega) (by omega) (by omega),i_L1_ok s hs b i hi]
 have hD:=digs_all (s.drop i)
 have hF:AllD (frac s (i+(digs (s.drop i)).length)):=by
  unfold frac
  split
  ·exact digs_all _
  ·intro x hx; cases hx
 generalize digs (s.drop i)=D at *
 generalize frac s (i+D.length)=F at *
 have hfb:=fr_bd F hF
 have hsat:=sat_val D 0 hD (Int.le_refl 0)
 rw [Int.zero_mul] at hsat
 rcases hsat with h | ⟨h1,h2⟩
 ·rw [h,Int.zero_add]
 ·unfold fin
  rw [Int.zero_add]
  by_cases hm:((D.length:Nat):Int)+(F.length:Nat)=0
  ·rw [if_pos hm,if_pos hm]
  ·rw [if_neg hm,if_neg hm,if_pos (by omega),if_pos (by omega)]
theorem fin_spec {p:Int} {b:Bool} {n m:Int} (h0:0≤n):∃ v e,fin p b n m=some (v,e,())∧(e=0∨e=p)∧(-9000000000000≤v∧v≤9000000000000):=by
 unfold fin
 split
 ·exact ⟨0,0,rfl,.inl rfl,by omega,by omega⟩
 ·split
  ·exact ⟨0,0,rfl,.inl rfl,by omega,by omega⟩
  ·refine ⟨_,p,rfl,.inr rfl,?_⟩
   split <;> omega
theorem endOf_le (s:List Int) (p:Nat) (hp:p≤s.length):endOf s p≤s.length:=by
 unfold endOf
 split
 ·exact hp
 ·rename_i h
  unfold frac at h ⊢
  by_cases h46:s[p]? = some 46
  ·rw [if_pos h46] at h ⊢
   have:=digs_len (s.drop (p+1))
   rw [List.length_drop] at this
   have hlt:p < s.length:=by
    by_cases h':p < s.length
    ·exact h'
    ·rw [List.getElem?_eq_none (by omega)] at h46; cases h46
   omega
  ·rw [if_neg h46] at h; exact absurd rfl h
theorem i_L1_spec (s:List Int) (hs:s.length≤1000000) (b:Bool) (i:Nat) (hi:i≤s.length):∃ v e,i_DecFront_L1 s (i:Int) b=some (v,e,())∧(0≤e∧e≤(s.length:Int))∧(-9000000000000≤v∧v≤9000000000000):=by
 have hdl:=digs_len (s.drop i)
 rw [List.length_drop] at hdl
 have hF:AllD (frac s (i+(digs (s.drop i)).length)):=by
  unfold frac
  split
  ·exact digs_all _
  ·intro x hx; cases hx
 rw [i_L1_ok s hs b i hi]
 have h1:=dv_nonneg _ 0 (digs_all (s.drop i)) (Int.le_refl 0)
 have h2:=fr_bd _ hF
 have h3:=endOf_le s (i+(digs (s.drop i)).length) (by omega)
 obtain ⟨v,e,k1,k2,k3⟩:=fin_spec (p:=(endOf s (i+(digs (s.drop i)).length):Nat)) (b:=b) (n:=dv 0 (digs (s.drop i)) * 1000000+fr (frac s (i+(digs (s.drop i)).length)) 100000) (m:=((digs (s.drop i)).length+(frac s (i+(digs (s.drop i)).length)).length)) (by omega)
 exact ⟨v,e,k1,by rcases k2 with rfl | rfl <;> omega,k3⟩
def lead (l:List Int):Nat:=(l.takeWhile (fun x=>decide (x=32))).length
noncomputable def front (s:List Int) (p:Nat):Option (Int × Int × Unit) :=
 if s[p]? = some 45 then i_DecFront_L1 s ((p+1:Nat):Int) true else if s[p]? = some 43 then i_DecFront_L1 s ((p+1:Nat):Int) false else i_DecFront_L1 s (p:Int) false
theorem s_front (s:List Int) (hs:s.length≤1000000) (hb:Bt s):∀ (d i:Nat),i+d=s.length→s_DecFront_L1 s (i:Int)=front s (i+lead (s.drop i)):=by
 intro d
 induction d with
 | zero =>
  intro i hd
  rw [s_DecFront_L1_eq,if_neg (by rw [decide_eq_true_eq]; omega),if_neg (by rw [decide_eq_true_eq]; omega),if_neg (by rw [decide_eq_true_eq]; omega),s_i_same s hs hb false i (by omega),List.drop_eq_nil_of_le (by omega)]
  rw [show i+lead []=i from rfl]
  unfold front
  rw [List.getElem?_eq_none (by omega),if_neg (by simp),if_neg (by simp)]
 | succ d ih =>
  intro i hd
  have hi:i < s.length:=by omega
  have c1:(i:Int) < (s.length:Int):=by omega
  have c2:(0:Int)≤(i:Int)∧(i:Int) < (s.length:Int):=by omega
  have hg:List.getD s (i:Int).toNat 0=s[i]:=getD_nat hi 0
  have hdr:=List.drop_eq_getElem_cons hi
  rw [s_DecFront_L1_eq,if_pos (decide_eq_true c1),if_pos c2,hg,w64_succ hi (by omega)]
  by_cases h:s[i]=32
  ·rw [if_pos (decide_eq_true h),ih (i+1) (by omega),hdr]
   unfold lead
   rw [List.takeWhile_cons_of_pos (by simp [h]),List.length_cons,show i+1+(List.takeWhile (fun x=>decide (x=32)) (List.drop (i+1) s)).length=i+((List.takeWhile (fun x=>decide (x=32)) (List.drop (i+1) s)).length+1) by omega]
  ·have hl:lead (s.drop i)=0:=by
    unfold lead
    rw [hdr,List.takeWhile_cons_of_neg (by simpa using h)]; rfl
   rw [if_neg (by rw [decide_eq_true_eq]; exact h),if_pos (decide_eq_true c1),if_pos c2,if_pos (decide_eq_true c1),if_pos c2,hl,show i+0=i from rfl]
   unfold front
   rw [List.getElem?_eq_getElem hi]
   by_cases h1:s[i]=45
   ·rw [if_pos (decide_eq_true h1),if_pos (by rw [h1]),decide_eq_true h1]
    exact s_i_same s hs hb true (i+1) (by omega)
   ·rw [if_neg (by rw [decide_eq_true_eq]; exact h1),if_pos c2,if_neg (show ¬ some s[i]=some 45 by simpa using h1),decide_eq_false h1]
    by_cases h2:s[i]=43
    ·rw [if_pos (decide_eq_true h2),if_pos (by rw [h2])]
     exact s_i_same s hs hb false (i+1) (by omega)
    ·rw [if_neg (by rw [decide_eq_true_eq]; exact h2),if_neg (by simpa using h2)]
     exact s_i_same s hs hb false i (by omega)
theorem lead_len (s:List Int):(s.length:Int) - (s.dropWhile (fun x=>decide (x=32))).length=lead s:=by
 have h:=congrArg List.length (List.takeWhile_append_dropWhile (p:=fun x=>decide (x=(32:Int))) (l:=s))
 rw [List.length_append] at h
 unfold lead
 omega
theorem lead_le (s:List Int):lead s≤s.length:=(List.takeWhile_sublist _).length_le
theorem i_front (s:List Int) (hs:s.length≤1000000):i_DecFront s=front s (lead s):=by
 have hL:=lead_len s
 have hle:=lead_le s
 rw [i_DecFront_eq,TrimLeft_ok _ _ (by omega) (by omega),Option.bind_some]
 dsimp only
 rw [hL,w64_id (n:=(lead s:Int)) (by omega) (by omega)]
 unfold front
 by_cases c1:(lead s:Int) < (s.length:Int)
 ·have hi:lead s < s.length:=by omega
  have c2:(0:Int)≤(lead s:Int)∧(lead s:Int) < (s.length:Int):=by omega
  have hg:List.getD s (lead s:Int).toNat 0=s[lead s]:=getD_nat hi 0
  rw [if_pos (decide_eq_true c1),if_pos c2,hg,w64_succ hi (by omega),List.getElem?_eq_getElem hi]
  by_cases h2:s[lead s]=43
  ·rw [if_pos (decide_eq_true h2),if_pos c2,if_neg (by rw [h2]; simp),if_pos (by rw [h2]),decide_eq_false (by rw [h2]; decide)]
  ·rw [if_neg (by rw [decide_eq_true_eq]; exact h2),if_pos c2]
   by_cases h1:s[lead s]=45
   ·rw [if_pos (decide_eq_true h1),if_pos c2,if_pos (by rw [h1]),decide_eq_true h1]
   ·rw [if_neg (by rw [decide_eq_true_eq]; exact h1),if_neg (by simpa using h1),if_neg (by simpa using h2)]
 ·rw [if_neg (by rw [decide_eq_true_eq]; exact c1),List.getElem?_eq_none (by omega),if_neg (by simp),if_neg (by simp)]
theorem decFront_same (s:List Int) (hs:s.length≤1000000) (hb:Bt s):∃ v e,s_DecFront s=some (v,e,())∧i_DecFront s=some (v,e,())∧(0≤e∧e≤(s.length:Int))∧(-9000000000000≤v∧v≤9000000000000):=by
 have h1:s_DecFront s=front s (lead s):=by
  have:=s_front s hs hb s.length 0 (by omega)
  rw [show (((0:Nat)):Int)=0 from rfl,List.drop_zero,Nat.zero_add] at this
  rw [s_DecFront_eq,this]
 rw [h1,i_front s hs]
 have hle:=lead_le s
 have hlt:∀ c:Int,s[lead s]? = some c→lead s+1≤s.length:=fun c h=>by
  by_cases h':lead s < s.length
  ·exact h'
  ·rw [List.getElem?_eq_none (by omega)] at h; cases h
 unfold front
 split
 ·rename_i h
  obtain ⟨v,e,k1,k2,k3⟩:=i_L1_spec s hs true (lead s+1) (hlt _ h)
  exact ⟨v,e,k1,k1,k2,k3⟩
 ·split
  ·rename_i h
   obtain ⟨v,e,k1,k2,k3⟩:=i_L1_spec s hs false (lead s+1) (hlt _ h)
   exact ⟨v,e,k1,k1,k2,k3⟩
  ·obtain ⟨v,e,k1,k2,k3⟩:=i_L1_spec s hs false (lead s) hle
   exact ⟨v,e,k1,k1,k2,k3⟩
theorem looks_L1 (s:List Int) (hs:s.length≤1000000) (v:Int):∀ (d i:Nat),i+d=s.length→s_DecLooks_L1 s v (i:Int)=some (if ∀ x∈s.drop i,x=32 then (v,true,()) else (0,false,())):=by
 intro d
 induction d with
 | zero =>
  intro i hd
  rw [s_DecLooks_L1_eq,if_neg (by rw [decide_eq_true_eq]; omega),List.drop_eq_nil_of_le (by omega),if_pos (by simp)]
 | succ d ih =>
  intro i hd
  have hi:i < s.length:=by omega
  rw [s_DecLooks_L1_eq,if_pos (decide_eq_true (by omega)),if_pos (by omega),getD_nat hi,w64_succ hi (by omega),ih (i+1) (by omega),List.drop_eq_getElem_cons hi]
  by_cases h:s[i]=32
  ·rw [if_neg (by simp [h])]
   simp [h]
  ·rw [if_pos (by simp [h]),if_neg (fun hh=>h (hh _ (List.mem_cons_self ..)))]
theorem decLooks_same (s:List Int) (hs:s.length≤1000000) (hb:Bt s):∃ v ok,s_DecLooks s=some (v,ok,())∧i_DecLooks s=some (v,ok,())∧(-9000000000000≤v∧v≤9000000000000):=by
 obtain ⟨v,e,k1,k2,k3,k4⟩:=decFront_same s hs hb
 rw [s_DecLooks_eq,i_DecLooks_eq,k1,k2]
 simp only [Option.bind_some]
 by_cases h:e=0
 ·rw [if_pos (decide_eq_true h),if_pos (decide_eq_true h)]; exact ⟨0,false,rfl,rfl,by omega,by omega⟩
 ·obtain ⟨n,rfl⟩:=Int.eq_ofNat_of_zero_le k3.1
  rw [if_neg (by rw [decide_eq_true_eq]; exact h),if_neg (by rw [decide_eq_true_eq]; exact h),if_pos k3,looks_L1 s hs v (s.length - n) n (by omega)]
  have hcut:List.take (s.length - (n:Int).toNat) (List.drop (n:Int).toNat s)=s.drop n:=by
   rw [Int.toNat_natCast,List.take_of_length_le (by rw [List.length_drop]; omega)]
  rw [hcut]
  obtain ⟨r,r1,r2⟩:=Trim_ok (s.drop n) (by rw [List.length_drop]; omega)
  rw [r1,Option.bind_some]
  by_cases hr:r=[]
  ·rw [if_pos (r2.1 hr),if_neg (by simp [hr])]; exact ⟨v,true,rfl,rfl,k4⟩
  ·rw [if_neg (fun hh=>hr (r2.2 hh)),if_pos (by simp [hr])]; exact ⟨0,false,rfl,rfl,by omega,by omega⟩
end Go.Proofs.YtcngnpahpbaagaaGreatDoor.E.TH
