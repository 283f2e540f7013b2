/- What an argument reads as, told as the printed contracts want it: for each kind of value one law 'its reading gives its cells and a value of Lean'. No condition. -/
import Derived.Test.YtfafpanihhikoaaWWords
import Derived.Deep.Slices
import Derived.ProofKit
import Derived.Carry
import Derived.Lib.SmallJoins
namespace Go.Proofs.Ytfafpanihhikoaa.Opens
open Go.Deep Go.ChangeShapes Go.WideShapes Go.Proofs.YtfafpanihhikoaaW.PrintWords
set_option linter.unusedVariables false

/-- A reading of type t gives cells of kind d, and a value that is so. -/
structure Opens {α : Type} (P : Program) (t : TypeId) (d : Kd α) (ok : α → Prop) : Prop where
  out : ∀ {H : Type} {enc : TypeId × Value → H} {w : World} {base : Nat} {spare : Nat → Bool} {held : Bool} (fuel : Nat) (cs : List Value) (x : DataW H × List MemPlace),
    DataW.trod enc P w base spare held fuel t cs = some x → ∃ y : α, d.K w y cs ∧ ok y

section
variable {P : Program} {t e : TypeId}

theorem opens_int {k : IntKind} (ht : P.underlying t = some (.int k)) : Opens P t (Kd.int k) (fun n => (Lit.int k n).wf = true) := by
  refine ⟨fun {H enc w base spare held} fuel cs x h => ?_⟩
  obtain ⟨n, rfl, rfl, hw⟩ := DataW.trod_int ht h
  exact ⟨n, rfl, hw⟩
theorem opens_bool (ht : P.underlying t = some .bool) : Opens P t Kd.bool (fun _ => True) := by
  refine ⟨fun {H enc w base spare held} fuel cs x h => ?_⟩
  obtain ⟨b, rfl, rfl⟩ := DataW.trod_bool ht h
  exact ⟨b, rfl, trivial⟩
theorem opens_string (ht : P.underlying t = some .string) : Opens P t Kd.string (fun s => s.size ≤ 9223372036854775807) := by
  refine ⟨fun {H enc w base spare held} fuel cs x h => ?_⟩
  obtain ⟨s, rfl, rfl, hs⟩ := DataW.trod_string ht h
  exact ⟨s, rfl, hs⟩

theorem opens_slice {α : Type} {d : Kd α} {ok : α → Prop} (ht : P.underlying t = some (.slice e)) (he : Opens P e d ok) (hsz : P.cellsOf e = d.sz) (z : α) :
    Opens P t (Kd.slice e d) (fun l => l.length ≤ 9223372036854775807 ∧ ∀ x ∈ l, ok x) := by
  refine ⟨fun {H enc w base spare held} fuel cs x h => ?_⟩
  rcases open_slice ht h with ⟨rfl, rfl⟩ | ⟨a, len, cap, m, n, D, Pl, rfl, hb, hl, hm, hmm, rfl, hx⟩
  · exact ⟨[], ⟨none, 0, rfl, Nat.le_refl _, rfl, Nat.zero_le _, fun h => absurd h (by simp)⟩, Nat.zero_le _, fun x hx => by cases hx⟩
  · have hlm : len ≤ m := by rw [hmm]; split <;> omega
    have hmx : maxLen = 9223372036854775807 := rfl
    obtain ⟨f, hf⟩ := @choose_lt α ⟨z⟩ len (fun i y => ∃ cs', w.cells? base (a.add (i * P.cellsOf e)) (P.cellsOf e) = some cs' ∧ d.K w y cs' ∧ ok y) (fun i hi => by
      obtain ⟨cs', h1, h2⟩ := hx i (by omega)
      obtain ⟨y, h3, h4⟩ := he.out n cs' _ h2
      exact ⟨y, cs', h1, h3, h4⟩)
    have hfl : ((List.range len).map f).length = len := by simp
    refine ⟨(List.range len).map f, ⟨some a, cap, by rw [hfl], by rw [hfl]; exact hl, rfl, by rw [hfl]; omega, fun _ => ⟨a, rfl, fun j p hj => ?_⟩⟩, by rw [hfl]; omega, fun y hy => ?_⟩
    · have hjl : j < len := by have := (List.getElem?_eq_some_iff.1 hj).1; rwa [hfl] at this
      obtain ⟨cs', h1, h2, h3⟩ := hf j hjl
      have hp : f j = p := by
        rw [List.getElem?_map, List.getElem?_range hjl] at hj
        exact Option.some.inj hj
      subst hp
      obtain ⟨hbb, hlen, hcell⟩ := World.cells?_some h1
      refine ⟨cs', d.K_len h2, h2, fun i u hu => ?_⟩
      have hi : i < cs'.length := (List.getElem?_eq_some_iff.1 hu).1
      have h5 := hcell i (by omega)
      rw [Go.Deep.add_add, hsz, hu] at h5
      exact h5
    · obtain ⟨i, hi, rfl⟩ := List.mem_map.1 hy
      obtain ⟨cs', h1, h2, h3⟩ := hf i (List.mem_range.1 hi)
      exact h3

/-- The fields from one on, in line: their types and places. -/
structure OpensF {α : Type} (P : Program) (fs : List Field) (off : Nat) (d : Kd α) (ok : α → Prop) : Prop where
  out : ∀ {H : Type} {enc : TypeId × Value → H} {w : World} {base : Nat} {spare : Nat → Bool} {held : Bool} (fuel : Nat) (cs : List Value), cs.length = off + d.sz →
    (∀ f ∈ fs, ∃ x, DataW.trod enc P w base spare held fuel f.type ((cs.drop f.offset).take (P.cellsOf f.type)) = some x) → ∃ y : α, d.K w y (cs.drop off) ∧ ok y

theorem opensF_one {α : Type} {d : Kd α} {ok : α → Prop} {f : Field} {off : Nat} (hoff : f.offset = off) (he : Opens P f.type d ok) (hsz : P.cellsOf f.type = d.sz) : OpensF P [f] off d ok := by
  refine ⟨fun {H enc w base spare held} fuel cs hl h => ?_⟩
  obtain ⟨x, hx⟩ := h f (by simp)
  rw [hoff, hsz] at hx
  obtain ⟨y, h1, h2⟩ := he.out fuel _ _ hx
  refine ⟨y, ?_, h2⟩
  rwa [List.take_of_length_le (by rw [List.length_drop]; omega)] at h1
theorem opensF_cons {α β : Type} {d : Kd α} {d' : Kd β} {ok : α → Prop} {ok' : β → Prop} {f : Field} {fs : List Field} {off : Nat} (hoff : f.offset = off) (he : Opens P f.type d ok) (hsz : P.cellsOf f.type = d.sz) (hr : OpensF P fs (off + d.sz) d' ok') :
    OpensF P (f :: fs) off (Kd.pair d d') (fun y => ok y.1 ∧ ok' y.2) := by
  refine ⟨fun {H enc w base spare held} fuel cs hl h => ?_⟩
  obtain ⟨x, hx⟩ := h f (by simp)
  rw [hoff, hsz] at hx
  obtain ⟨y, h1, h2⟩ := he.out fuel _ _ hx
  obtain ⟨y', h3, h4⟩ := hr.out fuel cs (by rw [hl]; simp [Kd.pair, Nat.add_assoc]) (fun g hg => h g (by simp [hg]))
  refine ⟨(y, y'), ⟨(cs.drop off).take d.sz, cs.drop (off + d.sz), ?_, h1, h3⟩, h2, h4⟩
  rw [← List.drop_drop, List.take_append_drop]
theorem opens_struct {α : Type} {d : Kd α} {ok : α → Prop} {fs : List Field} (ht : P.underlying t = some (.struct fs.toArray)) (hsz : P.cellsOf t = d.sz) (hf : OpensF P fs 0 d ok) : Opens P t d ok := by
  refine ⟨fun {H enc w base spare held} fuel cs x h => ?_⟩
  obtain ⟨xs, n, rfl, rfl, hl, hn, hx⟩ := DataW.trod_struct ht h
  obtain ⟨y, h1, h2⟩ := hf.out n cs (by rw [hl, hsz]; omega) (fun f hfm => by
    obtain ⟨i, hi, rfl⟩ := List.mem_iff_getElem.1 hfm
    have h4 := hx i fs[i] (by simp [hi])
    have h5 : i < xs.length := by rw [hn]; simpa using hi
    exact ⟨xs[i], by rw [h4, List.getElem?_eq_getElem h5]⟩)
  exact ⟨y, by simpa using h1, h2⟩
/-- A structure of Lean by its fields. -/
theorem opens_iso {α β : Type} {d : Kd α} {ok : α → Prop} {f : β → α} (g : α → β) (hg : ∀ x, f (g x) = x) (h : Opens P t d ok) : Opens P t (Kd.iso d f) (fun y => ok (f y)) := by
  refine ⟨fun {H enc w base spare held} fuel cs x hx => ?_⟩
  obtain ⟨y, h1, h2⟩ := h.out fuel cs x hx
  exact ⟨g y, by show d.K w (f (g y)) cs; rw [hg]; exact h1, by show ok (f (g y)); rw [hg]; exact h2⟩
theorem opens_imp {α : Type} {d : Kd α} {ok ok' : α → Prop} (h : Opens P t d ok) (hi : ∀ x, ok x → ok' x) : Opens P t d ok' := by
  refine ⟨fun {H enc w base spare held} fuel cs x hx => ?_⟩
  obtain ⟨y, h1, h2⟩ := h.out fuel cs x hx
  exact ⟨y, h1, hi y h2⟩

/-- A structure that is handed by value. -/
theorem agg_of {H : Type} {enc : TypeId × Value → H} {w : World} {r : Reach} {b0 : Nat} {base : Nat} {spare : Nat → Bool} {held : Bool} {α : Type} {d : Kd α} {ok : α → Prop} {fs : Array Field} {v : Value} {x : DataW H} {p : List MemPlace} (hs : P.underlying t = some (.struct fs)) (ho : Opens P t d ok)
    (hv : Value.okWide P w r b0 t v) (h : DataW.Trod enc P w base spare held t v x p) : ∃ y cs, v = .agg cs ∧ d.K w y cs.toList ∧ ok y := by
  obtain ⟨cs, rfl, hsz⟩ := okWide_struct hs hv
  obtain ⟨fuel, hf⟩ := h
  obtain ⟨y, h1, h2⟩ := ho.out fuel _ _ hf
  exact ⟨y, cs, rfl, h1, h2⟩
theorem val_of {H : Type} {enc : TypeId × Value → H} {w : World} {base : Nat} {spare : Nat → Bool} {held : Bool} {α : Type} {d : Kd α} {ok : α → Prop} {v : Value} {x : DataW H} {p : List MemPlace} (ho : Opens P t d ok)
    (h : DataW.Trod enc P w base spare held t v x p) : ∃ y, d.K w y v.cells.toList ∧ ok y := by
  obtain ⟨fuel, hf⟩ := h
  obtain ⟨y, h1, h2⟩ := ho.out fuel _ _ hf
  exact ⟨y, h1, h2⟩
theorem trod_lt' {H : Type} {enc : TypeId × Value → H} {w : World} {base : Nat} {spare : Nat → Bool} {held : Bool} {v : Value} {x : DataW H} {p : List MemPlace} (h : DataW.Trod enc P w base spare held t v x p) : ∀ y ∈ p, y.block < w.heap.size := by
  obtain ⟨m, hm⟩ := h
  exact DataW.trod_lt m _ _ _ hm
end
end Go.Proofs.Ytfafpanihhikoaa.Opens
