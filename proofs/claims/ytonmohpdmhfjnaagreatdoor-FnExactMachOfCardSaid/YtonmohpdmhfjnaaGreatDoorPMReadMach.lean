/- A machine is read from bytes: the program and the reference read the same. No condition but lengths and bytes. -/
import Derived.Test.YtonmohpdmhfjnaaGreatDoorPMMachBytes
import Derived.Test.YtonmohpdmhfjnaaGreatDoorPMReadText
import Derived.Test.YtonmohpdmhfjnaaGreatDoorTMe1
import Derived.Test.YtonmohpdmhfjnaaGreatDoorTMe2
import Derived.Test.YtonmohpdmhfjnaaGreatDoorTMe3
namespace Go.Proofs.YtonmohpdmhfjnaaGreatDoor.E.TM
open Go.Proofs.YtonmohpdmhfjnaaGreatDoor.E
set_option linter.unusedVariables false
def pN (b : List Int) (p : Int) : Option (Int × Int) := if (getNumOf b p).2.2 = true then some ((getNumOf b p).1, (getNumOf b p).2.1) else none
def pT (b : List Int) (p : Int) : Option (List Int × Int) := if (getTextOf b p).2.2 = true then some ((getTextOf b p).1, (getTextOf b p).2.1) else none
def pZ (b : List Int) (p : Int) : Option (Int × Int) := if (getIntOf b p).2.2 = true then some ((getIntOf b p).1, (getIntOf b p).2.1) else none
def pV (b : List Int) (p : Int) : Option (impl_Val × Int) := (pN b p).bind fun x => (pZ b x.2).bind fun y => (pT b y.2).bind fun z => some (⟨x.1, y.1, z.1⟩, z.2)
def pC (b : List Int) (p : Int) : Option (impl_Cell × Int) := (pN b p).bind fun x => (pT b x.2).bind fun y => (pV b y.2).bind fun z => some (⟨x.1, y.1, z.1⟩, z.2)
def pL {α : Type} (f : Int → Option (α × Int)) : Nat → Int → Option (List α × Int)
  | 0, p => some ([], p)
  | n + 1, p => (f p).bind fun x => (pL f n x.2).bind fun y => some (x.1 :: y.1, y.2)
theorem pN_spec {b : List Int} (hw : Bytes b) {p v q : Int} (h : pN b p = some (v, q)) : 0 ≤ p ∧ p < q ∧ q ≤ (b.length : Int) ∧ b.take q.toNat = b.take p.toNat ++ putNumOf v ∧ 0 ≤ v ∧ v ≤ 4611686018427387903 := by
  unfold pN at h
  cases e : (getNumOf b p).2.2 with
  | false => rw [e] at h; cases h
  | true =>
    rw [e, if_pos rfl] at h
    have h' := Option.some.inj h
    exact num_canon b hw p v q (Prod.ext (show (getNumOf b p).1 = v from congrArg Prod.fst h') (Prod.ext (show (getNumOf b p).2.1 = q from congrArg Prod.snd h') e))
theorem pT_spec {b : List Int} (hw : Bytes b) {p q : Int} {t : List Int} (h : pT b p = some (t, q)) : 0 ≤ p ∧ p < q ∧ q ≤ (b.length : Int) ∧ b.take q.toNat = b.take p.toNat ++ putText t ∧ t.length ≤ b.length := by
  unfold pT at h
  cases e : (getTextOf b p).2.2 with
  | false => rw [e] at h; cases h
  | true =>
    rw [e, if_pos rfl] at h
    have h' := Option.some.inj h
    exact text_canon b hw p q t (Prod.ext (show (getTextOf b p).1 = t from congrArg Prod.fst h') (Prod.ext (show (getTextOf b p).2.1 = q from congrArg Prod.snd h') e))
theorem pZ_spec {b : List Int} (hw : Bytes b) {p v q : Int} (h : pZ b p = some (v, q)) : 0 ≤ p ∧ p < q ∧ q ≤ (b.length : Int) ∧ b.take q.toNat = b.take p.toNat ++ putInt v := by
  unfold pZ at h
  cases e : (getIntOf b p).2.2 with
  | false => rw [e] at h; cases h
  | true =>
    rw [e, if_pos rfl] at h
    have h' := Option.some.inj h
    exact int_canon b hw p v q (Prod.ext (show (getIntOf b p).1 = v from congrArg Prod.fst h') (Prod.ext (show (getIntOf b p).2.1 = q from congrArg Prod.snd h') e))
theorem bind_split {α β : Type} {x : Option α} {f : α → Option β} {y : β} (h : x.bind f = some y) : ∃ a, x = some a ∧ f a = some y := by
  cases x with
  | none => cases h
  | some a => exact ⟨a, rfl, h⟩
theorem text_bytes {b : List Int} (hw : Bytes b) {p q : Int} {t : List Int} (h : pT b p = some (t, q)) : Bt t := by
  obtain ⟨h1, h2, h3, h4, h5⟩ := pT_spec hw h
  intro x hx
  have : x ∈ b.take q.toNat := by
    rw [h4]; unfold putText
    exact List.mem_append.2 (.inr (List.mem_append.2 (.inr hx)))
  exact hw x (List.mem_of_mem_take this)
theorem pV_spec {b : List Int} (hw : Bytes b) {p q : Int} {v : impl_Val} (h : pV b p = some (v, q)) : 0 ≤ p ∧ p < q ∧ q ≤ (b.length : Int) ∧ b.take q.toNat = b.take p.toNat ++ valBytes v ∧ v.S.length ≤ b.length ∧ Bt v.S := by
  unfold pV at h
  obtain ⟨x, hx, h⟩ := bind_split h
  obtain ⟨y, hy, h⟩ := bind_split h
  obtain ⟨z, hz, h⟩ := bind_split h
  have h' := Option.some.inj h
  have e1 := congrArg Prod.fst h'
  have e2 := congrArg Prod.snd h'
  dsimp only at e1 e2
  subst e1; subst e2
  obtain ⟨a1, a2, a3, a4, _⟩ := pN_spec hw (show pN b p = some (x.1, x.2) from hx)
  obtain ⟨b1, b2, b3, b4⟩ := pZ_spec hw (show pZ b x.2 = some (y.1, y.2) from hy)
  obtain ⟨c1, c2, c3, c4, c5⟩ := pT_spec hw (show pT b y.2 = some (z.1, z.2) from hz)
  refine ⟨a1, by omega, c3, ?_, c5, text_bytes hw (show pT b y.2 = some (z.1, z.2) from hz)⟩
  rw [c4, b4, a4]
  unfold valBytes
  simp only [List.append_assoc]
theorem pC_spec {b : List Int} (hw : Bytes b) {p q : Int} {c : impl_Cell} (h : pC b p = some (c, q)) : 0 ≤ p ∧ p < q ∧ q ≤ (b.length : Int) ∧ b.take q.toNat = addC (b.take p.toNat) c ∧ c.Key.length ≤ b.length ∧ c.Val.S.length ≤ b.length ∧ Bt c.Val.S := by
  unfold pC at h
  obtain ⟨x, hx, h⟩ := bind_split h
  obtain ⟨y, hy, h⟩ := bind_split h
  obtain ⟨z, hz, h⟩ := bind_split h
  have h' := Option.some.inj h
  have e1 := congrArg Prod.fst h'
  have e2 := congrArg Prod.snd h'
  dsimp only at e1 e2
  subst e1; subst e2
  obtain ⟨a1, a2, a3, a4, _⟩ := pN_spec hw (show pN b p = some (x.1, x.2) from hx)
  obtain ⟨b1, b2, b3, b4, b5⟩ := pT_spec hw (show pT b x.2 = some (y.1, y.2) from hy)
  obtain ⟨c1, c2, c3, c4, c5, c6⟩ := pV_spec hw (show pV b y.2 = some (z.1, z.2) from hz)
  refine ⟨a1, by omega, c3, ?_, b5, c5, c6⟩
  rw [c4, b4, a4]
  rfl
theorem pL_spec {α : Type} {f : Int → Option (α × Int)} {len : Int} (hf : ∀ p x q, f p = some (x, q) → 0 ≤ p ∧ p < q ∧ q ≤ len) : ∀ (n : Nat) (p : Int) (l : List α) (q : Int), pL f n p = some (l, q) → 0 ≤ p → p ≤ len → l.length = n ∧ p + n ≤ q ∧ q ≤ len := by
  intro n
  induction n with
  | zero =>
    intro p l q h h0 h1
    have h' := Option.some.inj h
    have e1 := congrArg Prod.fst h'
    have e2 := congrArg Prod.snd h'
    dsimp only at e1 e2
    subst e1; subst e2
    exact ⟨rfl, by simp, h1⟩
  | succ n ih =>
    intro p l q h h0 h1
    unfold pL at h
    obtain ⟨x, hx, h⟩ := bind_split h
    obtain ⟨y, hy, h⟩ := bind_split h
    have h' := Option.some.inj h
    have e1 := congrArg Prod.fst h'
    have e2 := congrArg Prod.snd h'
    dsimp only at e1 e2
    subst e1; subst e2
    obtain ⟨a1, a2, a3⟩ := hf p x.1 x.2 hx
    obtain ⟨b1, b2, b3⟩ := ih x.2 y.1 y.2 hy (by omega) a3
    exact ⟨by simp [b1], by omega, b3⟩
theorem pL_all {α : Type} {f : Int → Option (α × Int)} {Q : α → Prop} (hf : ∀ p x q, f p = some (x, q) → Q x) : ∀ (n : Nat) (p : Int) (l : List α) (q : Int), pL f n p = some (l, q) → ∀ x ∈ l, Q x := by
  intro n
  induction n with
  | zero =>
    intro p l q h x hx
    have e1 := congrArg Prod.fst (Option.some.inj h)
    dsimp only at e1
    subst e1; cases hx
  | succ n ih =>
    intro p l q h x hx
    unfold pL at h
    obtain ⟨u, hu, h⟩ := bind_split h
    obtain ⟨y, hy, h⟩ := bind_split h
    have e1 := congrArg Prod.fst (Option.some.inj h)
    dsimp only at e1
    subst e1
    rcases List.mem_cons.1 hx with hx | hx
    · subst hx; exact hf p u.1 u.2 hu
    · exact ih u.2 y.1 y.2 hy x hx
def pM (b : List Int) : Option (impl_Mach × Int) :=
  (pN b 0).bind fun n => (pL (pV b) n.1.toNat n.2).bind fun vs => (pN b vs.2).bind fun k => (pL (pC b) k.1.toNat k.2).bind fun cs => (pN b cs.2).bind fun r => (pN b r.2).bind fun e =>
  (pL (pN b) 3 e.2).bind fun ds => (pT b ds.2).bind fun o => some (⟨⟨vs.1, cs.1, r.1, e.1⟩, ds.1, o.1⟩, o.2)
variable {b : List Int}
def PosI (b : List Int) (p : Int) : Prop := 0 ≤ p ∧ p ≤ (b.length : Int)
theorem PosI.range {b : List Int} {p : Int} (h : PosI b p) (hb : b.length ≤ 1048576) : -9223372036854775808 ≤ p ∧ p ≤ 9223372036854775807 := by
  have h1 := h.1
  have h2 := h.2
  omega
theorem sN_some (hb : b.length ≤ 1048576) (hw : Bytes b) {p v q : Int} (hp : PosI b p) (h : pN b p = some (v, q)) : s_l17Num ⟨b, p, true⟩ = some (v, ⟨b, q, true⟩, ()) := by
  unfold pN at h
  cases e : (getNumOf b p).2.2 with
  | false => rw [e] at h; cases h
  | true =>
    rw [e, if_pos rfl] at h
    have h' := Option.some.inj h
    have g1 : (getNumOf b p).1 = v := congrArg Prod.fst h'
    have g2 : (getNumOf b p).2.1 = q := congrArg Prod.snd h'
    rw [s_l17Num_eq, s_GetNum_ok b hb hw p (hp.range hb), Option.bind_some]
    unfold tr3
    dsimp only
    rw [e, g1, g2]; rfl
theorem sN_none (hb : b.length ≤ 1048576) (hw : Bytes b) {p : Int} (hp : PosI b p) (h : pN b p = none) : s_l17Num ⟨b, p, true⟩ = some (0, ⟨b, p, false⟩, ()) := by
  unfold pN at h
  cases e : (getNumOf b p).2.2 with
  | true => rw [e, if_pos rfl] at h; cases h
  | false =>
    rw [s_l17Num_eq, s_GetNum_ok b hb hw p (hp.range hb), Option.bind_some]
    unfold tr3
    dsimp only
    rw [e]; rfl
theorem sN_bad (hb : b.length ≤ 1048576) (hw : Bytes b) {p : Int} (hp : PosI b p) : s_l17Num ⟨b, p, false⟩ = some (0, ⟨b, p, false⟩, ()) := by
  rw [s_l17Num_eq, s_GetNum_ok b hb hw p (hp.range hb), Option.bind_some]
  unfold tr3
  dsimp only
  cases (getNumOf b p).2.2 <;> rfl
theorem sT_some (hb : b.length ≤ 1048576) (hw : Bytes b) {p q : Int} {v : List Int} (hp : PosI b p) (h : pT b p = some (v, q)) : s_l17Text ⟨b, p, true⟩ = some (v, ⟨b, q, true⟩, ()) := by
  unfold pT at h
  cases e : (getTextOf b p).2.2 with
  | false => rw [e] at h; cases h
  | true =>
    rw [e, if_pos rfl] at h
    have h' := Option.some.inj h
    have g1 : (getTextOf b p).1 = v := congrArg Prod.fst h'
    have g2 : (getTextOf b p).2.1 = q := congrArg Prod.snd h'
    rw [s_l17Text_eq, s_GetText_ok b hb hw p (hp.range hb), Option.bind_some]
    unfold trT
    dsimp only
    rw [e, g1, g2]; rfl
theorem sT_none (hb : b.length ≤ 1048576) (hw : Bytes b) {p : Int} (hp : PosI b p) (h : pT b p = none) : s_l17Text ⟨b, p, true⟩ = some ([], ⟨b, p, false⟩, ()) := by
  unfold pT at h
  cases e : (getTextOf b p).2.2 with
  | true => rw [e, if_pos rfl] at h; cases h
  | false =>
    rw [s_l17Text_eq, s_GetText_ok b hb hw p (hp.range hb), Option.bind_some]
    unfold trT
    dsimp only
    rw [e]; rfl
theorem sT_bad (hb : b.length ≤ 1048576) (hw : Bytes b) {p : Int} (hp : PosI b p) : s_l17Text ⟨b, p, false⟩ = some ([], ⟨b, p, false⟩, ()) := by
  rw [s_l17Text_eq, s_GetText_ok b hb hw p (hp.range hb), Option.bind_some]
  unfold trT
  dsimp only
  cases (getTextOf b p).2.2 <;> rfl
theorem sZ_some (hb : b.length ≤ 1048576) (hw : Bytes b) {p v q : Int} (hp : PosI b p) (h : pZ b p = some (v, q)) : s_l17Int ⟨b, p, true⟩ = some (v, ⟨b, q, true⟩, ()) := by
  unfold pZ at h
  cases e : (getIntOf b p).2.2 with
  | false => rw [e] at h; cases h
  | true =>
    rw [e, if_pos rfl] at h
    have h' := Option.some.inj h
    have g1 : (getIntOf b p).1 = v := congrArg Prod.fst h'
    have g2 : (getIntOf b p).2.1 = q := congrArg Prod.snd h'
    rw [s_l17Int_eq, s_GetInt_ok b hb hw p (hp.range hb), Option.bind_some]
    unfold tr3
    dsimp only
    rw [e, g1, g2]; rfl
theorem sZ_none (hb : b.length ≤ 1048576) (hw : Bytes b) {p : Int} (hp : PosI b p) (h : pZ b p = none) : s_l17Int ⟨b, p, true⟩ = some (0, ⟨b, p, false⟩, ()) := by
  unfold pZ at h
  cases e : (getIntOf b p).2.2 with
  | true => rw [e, if_pos rfl] at h; cases h
  | false =>
    rw [s_l17Int_eq, s_GetInt_ok b hb hw p (hp.range hb), Option.bind_some]
    unfold tr3
    dsimp only
    rw [e]; rfl
theorem sZ_bad (hb : b.length ≤ 1048576) (hw : Bytes b) {p : Int} (hp : PosI b p) : s_l17Int ⟨b, p, false⟩ = some (0, ⟨b, p, false⟩, ()) := by
  rw [s_l17Int_eq, s_GetInt_ok b hb hw p (hp.range hb), Option.bind_some]
  unfold tr3
  dsimp only
  cases (getIntOf b p).2.2 <;> rfl
theorem iN_some (hb : b.length ≤ 1048576) (hw : Bytes b) {p v q m : Int} (h : pN b p = some (v, q)) : i_source_num ⟨b, p, false⟩ m = if v > m then some (0, ⟨b, p, true⟩, ()) else some (v, ⟨b, q, false⟩, ()) := by
  unfold pN at h
  cases e : (getNumOf b p).2.2 with
  | false => rw [e] at h; cases h
  | true =>
    rw [e, if_pos rfl] at h
    have h' := Option.some.inj h
    have g1 : (getNumOf b p).1 = v := congrArg Prod.fst h'
    have g2 : (getNumOf b p).2.1 = q := congrArg Prod.snd h'
    rw [i_source_num_eq, i_GetNum_ok b hb hw p, Option.bind_some]
    unfold tr3
    dsimp only
    rw [e, g1, g2, if_neg (by simp), if_neg (by simp)]
    by_cases c : v > m
    · rw [if_pos (decide_eq_true c), if_pos c]
    · rw [if_neg (by rw [decide_eq_true_eq]; exact c), if_neg c]
theorem iN_none (hb : b.length ≤ 1048576) (hw : Bytes b) {p m : Int} (h : pN b p = none) : i_source_num ⟨b, p, false⟩ m = some (0, ⟨b, p, true⟩, ()) := by
  unfold pN at h
  cases e : (getNumOf b p).2.2 with
  | true => rw [e, if_pos rfl] at h; cases h
  | false =>
    rw [i_source_num_eq, i_GetNum_ok b hb hw p, Option.bind_some]
    unfold tr3
    dsimp only
    rw [e]; rfl
theorem iN_bad (hb : b.length ≤ 1048576) (hw : Bytes b) {p m : Int} : i_source_num ⟨b, p, true⟩ m = some (0, ⟨b, p, true⟩, ()) := by
  rw [i_source_num_eq, i_GetNum_ok b hb hw p, Option.bind_some]; rfl
theorem iT_some (hb : b.length ≤ 1048576) (hw : Bytes b) {p q : Int} {v : List Int} (h : pT b p = some (v, q)) : i_source_text ⟨b, p, false⟩ = some (v, ⟨b, q, false⟩, ()) := by
  unfold pT at h
  cases e : (getTextOf b p).2.2 with
  | false => rw [e] at h; cases h
  | true =>
    rw [e, if_pos rfl] at h
    have h' := Option.some.inj h
    have g1 : (getTextOf b p).1 = v := congrArg Prod.fst h'
    have g2 : (getTextOf b p).2.1 = q := congrArg Prod.snd h'
    rw [i_source_text_eq, i_GetText_ok b hb hw p, Option.bind_some]
    unfold trT
    dsimp only
    rw [e, g1, g2]; rfl
theorem iT_none (hb : b.length ≤ 1048576) (hw : Bytes b) {p : Int} (h : pT b p = none) : i_source_text ⟨b, p, false⟩ = some ([], ⟨b, p, true⟩, ()) := by
  unfold pT at h
  cases e : (getTextOf b p).2.2 with
  | true => rw [e, if_pos rfl] at h; cases h
  | false =>
    rw [i_source_text_eq, i_GetText_ok b hb hw p, Option.bind_some]
    unfold trT
    dsimp only
    rw [e]; rfl
theorem iT_bad (hb : b.length ≤ 1048576) (hw : Bytes b) {p : Int} : i_source_text ⟨b, p, true⟩ = some ([], ⟨b, p, true⟩, ()) := by
  rw [i_source_text_eq, i_GetText_ok b hb hw p, Option.bind_some]; rfl
theorem iV_some (hb : b.length ≤ 1048576) (hw : Bytes b) {p q : Int} {v : impl_Val} (h : pV b p = some (v, q)) : i_source_val ⟨b, p, false⟩ = some (v, ⟨b, q, false⟩, ()) := by
  unfold pV at h
  obtain ⟨x, hx, h⟩ := bind_split h
  obtain ⟨y, hy, h⟩ := bind_split h
  obtain ⟨z, hz, h⟩ := bind_split h
  have hx' := pN_spec hw (show pN b p = some (x.1, x.2) from hx)
  have h' := Option.some.inj h
  rw [i_source_val_eq, iN_some hb hw (show pN b p = some (x.1, x.2) from hx), if_neg (by omega), Option.bind_some]
  dsimp only
  have ey : (getIntOf b x.2).2.2 = true ∧ ((getIntOf b x.2).1, (getIntOf b x.2).2.1) = y := by
    unfold pZ at hy
    cases e : (getIntOf b x.2).2.2 with
    | false => rw [e] at hy; cases hy
    | true => rw [e, if_pos rfl] at hy; exact ⟨rfl, Option.some.inj hy⟩
  rw [i_GetInt_ok b hb hw, Option.bind_some]
  unfold tr3
  dsimp only
  rw [ey.1, if_neg (by simp), if_neg (by simp), (show (getIntOf b x.2).1 = y.1 from congrArg Prod.fst ey.2), (show (getIntOf b x.2).2.1 = y.2 from congrArg Prod.snd ey.2), iT_some hb hw (show pT b y.2 = some (z.1, z.2) from hz), Option.bind_some]
  dsimp only
  have e1 := congrArg Prod.fst h'
  have e2 := congrArg Prod.snd h'
  dsimp only at e1 e2
  rw [← e1, ← e2]
theorem iV_none (hb : b.length ≤ 1048576) (hw : Bytes b) {p : Int} (h : pV b p = none) : ∃ v a, i_source_val ⟨b, p, false⟩ = some (v, ⟨b, a, true⟩, ()) := by
  rw [i_source_val_eq]
  cases hx : pN b p with
  | none =>
    rw [iN_none hb hw hx, Option.bind_some]
    dsimp only
    rw [i_GetInt_ok b hb hw, Option.bind_some]
    exact ⟨_, _, rfl⟩
  | some x =>
    have hx' := pN_spec hw (show pN b p = some (x.1, x.2) from hx)
    rw [iN_some hb hw (show pN b p = some (x.1, x.2) from hx), if_neg (by omega), Option.bind_some]
    dsimp only
    rw [i_GetInt_ok b hb hw, Option.bind_some]
    unfold tr3
    dsimp only
    cases e : (getIntOf b x.2).2.2 with
    | false => exact ⟨_, _, rfl⟩
    | true =>
      rw [if_neg (by simp), if_neg (by simp)]
      cases hz : pT b (getIntOf b x.2).2.1 with
      | none => rw [iT_none hb hw hz, Option.bind_some]; exact ⟨_, _, rfl⟩
      | some z =>
        exfalso
        unfold pV at h
        rw [hx, Option.bind_some] at h
        have hy : pZ b x.2 = some ((getIntOf b x.2).1, (getIntOf b x.2).2.1) := by unfold pZ; rw [e, if_pos rfl]
        rw [hy, Option.bind_some, hz, Option.bind_some] at h
        cases h
theorem iV_bad (hb : b.length ≤ 1048576) (hw : Bytes b) {p : Int} : ∃ v a, i_source_val ⟨b, p, true⟩ = some (v, ⟨b, a, true⟩, ()) := by
  rw [i_source_val_eq, iN_bad hb hw, Option.bind_some]
  dsimp only
  rw [i_GetInt_ok b hb hw, Option.bind_some]
  exact ⟨_, _, rfl⟩
theorem sV_some (hb : b.length ≤ 1048576) (hw : Bytes b) {p q : Int} {v : impl_Val} (hp : PosI b p) (h : pV b p = some (v, q)) : s_l17Read ⟨b, p, true⟩ = some (v, ⟨b, q, true⟩, ()) := by
  unfold pV at h
  obtain ⟨x, hx, h⟩ := bind_split h
  obtain ⟨y, hy, h⟩ := bind_split h
  obtain ⟨z, hz, h⟩ := bind_split h
  have a := pN_spec hw (show pN b p = some (x.1, x.2) from hx)
  have c := pZ_spec hw (show pZ b x.2 = some (y.1, y.2) from hy)
  have h' := Option.some.inj h
  have e1 := congrArg Prod.fst h'
  have e2 := congrArg Prod.snd h'
  dsimp only at e1 e2
  rw [s_l17Read_eq, sN_some hb hw hp (show pN b p = some (x.1, x.2) from hx), Option.bind_some]
  dsimp only
  rw [sZ_some hb hw ⟨by omega, a.2.2.1⟩ (show pZ b x.2 = some (y.1, y.2) from hy), Option.bind_some]
  dsimp only
  rw [sT_some hb hw ⟨by omega, c.2.2.1⟩ (show pT b y.2 = some (z.1, z.2) from hz), Option.bind_some, ← e1, ← e2]
theorem sV_bad (hb : b.length ≤ 1048576) (hw : Bytes b) {p : Int} (hp : PosI b p) : s_l17Read ⟨b, p, false⟩ = some (⟨0, 0, []⟩, ⟨b, p, false⟩, ()) := by
  rw [s_l17Read_eq, sN_bad hb hw hp, Option.bind_some]
  dsimp only
  rw [sZ_bad hb hw hp, Option.bind_some]
  dsimp only
  rw [sT_bad hb hw hp]; rfl
theorem sV_none (hb : b.length ≤ 1048576) (hw : Bytes b) {p : Int} (hp : PosI b p) (h : pV b p = none) : ∃ v a, s_l17Read ⟨b, p, true⟩ = some (v, ⟨b, a, false⟩, ()) ∧ PosI b a := by
  rw [s_l17Read_eq]
  cases hx : pN b p with
  | none =>
    rw [sN_none hb hw hp hx, Option.bind_some]
    dsimp only
    rw [sZ_bad hb hw hp, Option.bind_some]
    dsimp only
    rw [sT_bad hb hw hp]; exact ⟨_, _, rfl, hp⟩
  | some x =>
    have a := pN_spec hw (show pN b p = some (x.1, x.2) from hx)
    have px : PosI b x.2 := ⟨by omega, a.2.2.1⟩
    rw [sN_some hb hw hp (show pN b p = some (x.1, x.2) from hx), Option.bind_some]
    dsimp only
    cases hy : pZ b x.2 with
    | none =>
      rw [sZ_none hb hw px hy, Option.bind_some]
      dsimp only
      rw [sT_bad hb hw px]; exact ⟨_, _, rfl, px⟩
    | some y =>
      have c := pZ_spec hw (show pZ b x.2 = some (y.1, y.2) from hy)
      have py : PosI b y.2 := ⟨by omega, c.2.2.1⟩
      rw [sZ_some hb hw px (show pZ b x.2 = some (y.1, y.2) from hy), Option.bind_some]
      dsimp only
      cases hz : pT b y.2 with
      | none => rw [sT_none hb hw py hz]; exact ⟨_, _, rfl, py⟩
      | some z =>
        exfalso
        unfold pV at h
        rw [hx, Option.bind_some, hy, Option.bind_some, hz, Option.bind_some] at h
        cases h
end Go.Proofs.YtonmohpdmhfjnaaGreatDoor.E.TM
