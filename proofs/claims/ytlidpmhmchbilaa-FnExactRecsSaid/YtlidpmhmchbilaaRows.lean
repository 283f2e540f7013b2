/-
  No cell of these rows narrows 'for every input' (looked for: loops, veiled, ifaces, maps, wideKeys, modest, calm, conditions, laid).
  DERIVED. THE GIVEN ROWS OF THIS SEAT. 3 by the template 'for every input the law returns true; each argument reads behind the call as it read before'; 0 by the template 'total and deterministic' (their statements: YtlidpmhmchbilaaTotals.lean).
  GIVEN WITH THE SEED: the statements are not yours to turn. If you find one false, say at which input.
  Laid BY PROGRAM, IN A SANDBOX (cutbox-rows.mjs): the forced cells as the released guide's own fill.sh prints them over the translation 6e89e2acfc8fc4ba… (all of the seat's roots in one cut). By AI agents, Wed Nov 11 2026. No macro, syntax, notation, axiom, sorry.
-/
import Derived.Test.YtlidpmhmchbilaaChecked
import GoSem.Claim
import GoSem.ClaimJoined
import GoSem.ClaimMapViews
import Derived.JoinedTies
import Derived.KernelRfl
namespace Go.Proofs.Ytlidpmhmchbilaa
/- THE CELL 'sum', in the pinned program and in every row, IS THE sha256 OF THE DUMP (.gsa) THAT YtlidpmhmchbilaaProg.lean LOADS. Nothing in Lean hashes anything: it is a label: what it is worth is what the hold of that sum in a sandbox is worth. -/
noncomputable def Try.pinned : Pinned := { name := "ytlidpmhmchbilaa", sum := "6e89e2acfc8fc4ba097c2d5337ccf5a7d9e69c9ffdec3c20d965b43e194a8174", checked := Try.checked }
namespace Rows
def none {H : Type} : Left H := { results := [], args := [] }

/-- 'laws.FnExactRecOf': WHATEVER THE INPUT: true; the input reads as it did. -/
def fnExactRecOfSpec : ChangeSpec := { name := "fnExactRecOf", fn := fun _ => fun
  | [d1, d2] => { results := [.lit (.bool true)], args := [d1, d2] }
  | _ => none }
def fnExactRecOfRow : OpenClaim := { program := "ytlidpmhmchbilaa", sum := "6e89e2acfc8fc4ba097c2d5337ccf5a7d9e69c9ffdec3c20d965b43e194a8174", func := "loop.example/g00289/laws.FnExactRecOf", spec := "fnExactRecOf", inPlace := ["internal/bytealg.IndexByteString", "internal/bytealg.IndexString"], unfollowed := true, recurses := true, named := ["internal/bytealg.MaxLen"], apart := false }
def FnExactRecOfSaid : Prop := fnExactRecOfRow.holds Try.pinned (OpenSpec.ofChange fnExactRecOfSpec)

/-- ITS FALSE NEIGHBOUR: 'it returns false'. Refute it at one input. -/
def fnExactRecOfWrong : ChangeSpec := { name := "fnExactRecOf", fn := fun _ => fun
  | [d1, d2] => { results := [.lit (.bool false)], args := [d1, d2] }
  | _ => none }
def FnExactRecOfWrongFalsely : Prop := fnExactRecOfRow.holds Try.pinned (OpenSpec.ofChange fnExactRecOfWrong)

/-- 'laws.FnExactRecs': WHATEVER THE INPUT: true; the input reads as it did. -/
def fnExactRecsSpec : ChangeSpec := { name := "fnExactRecs", fn := fun _ => fun
  | [d] => { results := [.lit (.bool true)], args := [d] }
  | _ => none }
def fnExactRecsRow : OpenClaim := { program := "ytlidpmhmchbilaa", sum := "6e89e2acfc8fc4ba097c2d5337ccf5a7d9e69c9ffdec3c20d965b43e194a8174", func := "loop.example/g00289/laws.FnExactRecs", spec := "fnExactRecs", inPlace := ["internal/bytealg.IndexByteString", "internal/bytealg.IndexString"], unfollowed := true, recurses := true, named := ["internal/bytealg.MaxLen"], apart := false }
def FnExactRecsSaid : Prop := fnExactRecsRow.holds Try.pinned (OpenSpec.ofChange fnExactRecsSpec)

/-- ITS FALSE NEIGHBOUR: 'it returns false'. Refute it at one input. -/
def fnExactRecsWrong : ChangeSpec := { name := "fnExactRecs", fn := fun _ => fun
  | [d] => { results := [.lit (.bool false)], args := [d] }
  | _ => none }
def FnExactRecsWrongFalsely : Prop := fnExactRecsRow.holds Try.pinned (OpenSpec.ofChange fnExactRecsWrong)

/-- 'laws.FnUnions': WHATEVER THE INPUT: true; the input reads as it did. -/
def fnUnionsSpec : ChangeSpec := { name := "fnUnions", fn := fun _ => fun
  | [d] => { results := [.lit (.bool true)], args := [d] }
  | _ => none }
def fnUnionsRow : OpenClaim := { program := "ytlidpmhmchbilaa", sum := "6e89e2acfc8fc4ba097c2d5337ccf5a7d9e69c9ffdec3c20d965b43e194a8174", func := "loop.example/g00289/laws.FnUnions", spec := "fnUnions", inPlace := ["internal/bytealg.IndexByteString", "internal/bytealg.IndexString"], unfollowed := true, recurses := true, named := ["internal/bytealg.MaxLen"], apart := false }
def FnUnionsSaid : Prop := fnUnionsRow.holds Try.pinned (OpenSpec.ofChange fnUnionsSpec)

/-- ITS FALSE NEIGHBOUR: 'it returns false'. Refute it at one input. -/
def fnUnionsWrong : ChangeSpec := { name := "fnUnions", fn := fun _ => fun
  | [d] => { results := [.lit (.bool false)], args := [d] }
  | _ => none }
def FnUnionsWrongFalsely : Prop := fnUnionsRow.holds Try.pinned (OpenSpec.ofChange fnUnionsWrong)

/- THE SECOND FORM. 'bulk': how many values and letters a reading holds, each counted each time it is reached (what is shared counts as often as it is met; a slice's spare places count too). A statement '..UptoSaid' is the law's where the arguments, and the package variables that the reading takes, are together of bulk at most 1048576: NARROWER than '..Said'. Prove '..Said' where nothing that the law and all that it calls make is longer than what came in: it says more and counts as full. Else prove '..UptoSaid'. A law counts once. -/
mutual
def uptoBulk {H : Type} : DataW H → Nat
  | .lit (.string bytes) => bytes.length + 1
  | .lit _ => 1
  | .nil => 1
  | .ptr d => uptoBulk d + 1
  | .slice elems spare => uptoBulkAll elems + uptoBulkAll spare + 1
  | .agg parts => uptoBulkAll parts + 1
  | .iface _ d => uptoBulk d + 1
  | .map entries => uptoBulkEntries entries + 1
  | .held _ => 1
def uptoBulkAll {H : Type} : List (DataW H) → Nat
  | [] => 0
  | d :: r => uptoBulk d + uptoBulkAll r
def uptoBulkEntries {H : Type} : List (Lit × DataW H) → Nat
  | [] => 0
  | x :: r => uptoBulkEntry x + uptoBulkEntries r
def uptoBulkEntry {H : Type} : Lit × DataW H → Nat
  | (.string bytes, d) => bytes.length + uptoBulk d + 1
  | (_, d) => uptoBulk d + 1
 end
def uptoSmall : (H : Type) → List (DataW H) → Bool := fun _ ds => decide (uptoBulkAll ds ≤ 1048576)
def OpenSpec.upto (s : _root_.Go.ChangeSpec) : _root_.Go.OpenSpec := { _root_.Go.OpenSpec.ofChange s with cond := some uptoSmall }

/-- 'laws.FnExactRecOf', WHERE WHAT IT READS IS OF BULK AT MOST 1048576: true; the input reads as it did. -/
def fnExactRecOfUptoRow : OpenClaim := { program := "ytlidpmhmchbilaa", sum := "6e89e2acfc8fc4ba097c2d5337ccf5a7d9e69c9ffdec3c20d965b43e194a8174", func := "loop.example/g00289/laws.FnExactRecOf", spec := "fnExactRecOf", inPlace := ["internal/bytealg.IndexByteString", "internal/bytealg.IndexString"], unfollowed := true, recurses := true, named := ["internal/bytealg.MaxLen"], apart := false, narrowed := true }
def FnExactRecOfUptoSaid : Prop := fnExactRecOfUptoRow.holds Try.pinned (OpenSpec.upto fnExactRecOfSpec)

/-- 'laws.FnExactRecs', WHERE WHAT IT READS IS OF BULK AT MOST 1048576: true; the input reads as it did. -/
def fnExactRecsUptoRow : OpenClaim := { program := "ytlidpmhmchbilaa", sum := "6e89e2acfc8fc4ba097c2d5337ccf5a7d9e69c9ffdec3c20d965b43e194a8174", func := "loop.example/g00289/laws.FnExactRecs", spec := "fnExactRecs", inPlace := ["internal/bytealg.IndexByteString", "internal/bytealg.IndexString"], unfollowed := true, recurses := true, named := ["internal/bytealg.MaxLen"], apart := false, narrowed := true }
def FnExactRecsUptoSaid : Prop := fnExactRecsUptoRow.holds Try.pinned (OpenSpec.upto fnExactRecsSpec)

/-- 'laws.FnUnions', WHERE WHAT IT READS IS OF BULK AT MOST 1048576: true; the input reads as it did. -/
def fnUnionsUptoRow : OpenClaim := { program := "ytlidpmhmchbilaa", sum := "6e89e2acfc8fc4ba097c2d5337ccf5a7d9e69c9ffdec3c20d965b43e194a8174", func := "loop.example/g00289/laws.FnUnions", spec := "fnUnions", inPlace := ["internal/bytealg.IndexByteString", "internal/bytealg.IndexString"], unfollowed := true, recurses := true, named := ["internal/bytealg.MaxLen"], apart := false, narrowed := true }
def FnUnionsUptoSaid : Prop := fnUnionsUptoRow.holds Try.pinned (OpenSpec.upto fnUnionsSpec)

end Rows
end Go.Proofs.Ytlidpmhmchbilaa
