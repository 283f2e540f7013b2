/-
  No cell of these rows narrows 'for every input' (looked for: loops, veiled, ifaces, maps, wideKeys, modest, calm, conditions, laid).
  DERIVED. THE GIVEN ROWS OF THIS SEAT. 3 by the template 'for every input the law returns true; each argument reads behind the call as it read before'; 0 by the template 'total and deterministic' (their statements: YtacknlgegbagfaaGreatTotals.lean).
  GIVEN WITH THE SEED: the statements are not yours to turn. If you find one false, say at which input.
  Laid BY PROGRAM, IN A SANDBOX (cutbox-rows.mjs): the forced cells as the released guide's own fill.sh prints them over the translation aeb3c8261d74d398… (all of the seat's roots in one cut). By AI agents, Wed Nov 11 2026. No macro, syntax, notation, axiom, sorry.
-/
import Derived.Test.YtacknlgegbagfaaGreatChecked
import GoSem.Claim
import GoSem.ClaimJoined
import GoSem.ClaimMapViews
import Derived.JoinedTies
import Derived.KernelRfl
namespace Go.Proofs.YtacknlgegbagfaaGreat
/- THE CELL 'sum', in the pinned program and in every row, IS THE sha256 OF THE DUMP (.gsa) THAT YtacknlgegbagfaaGreatProg.lean LOADS. Nothing in Lean hashes anything: it is a label: what it is worth is what the hold of that sum in a sandbox is worth. -/
noncomputable def Tryz.pinned : Pinned := { name := "ytacknlgegbagfaagreat", sum := "aeb3c8261d74d398023bb31e63548dad8c516557adf8ede1a170bbe9e267491b", checked := Tryz.checked }
namespace Rows
def none {H : Type} : Left H := { results := [], args := [] }

/-- 'laws.FnTorn': WHATEVER THE INPUT: true; the input reads as it did. -/
def fnTornSpec : ChangeSpec := { name := "fnTorn", fn := fun _ => fun
  | [d] => { results := [.lit (.bool true)], args := [d] }
  | _ => none }
def fnTornRow : OpenClaim := { program := "ytacknlgegbagfaagreat", sum := "aeb3c8261d74d398023bb31e63548dad8c516557adf8ede1a170bbe9e267491b", func := "loop.example/g00289/laws.FnTorn", spec := "fnTorn", inPlace := ["internal/bytealg.IndexByteString", "internal/bytealg.IndexString"], unfollowed := true, recurses := true, named := ["internal/bytealg.MaxLen"], apart := false }
def FnTornSaid : Prop := fnTornRow.holds Tryz.pinned (OpenSpec.ofChange fnTornSpec)

/-- ITS FALSE NEIGHBOUR: 'it returns false'. Refute it at one input. -/
def fnTornWrong : ChangeSpec := { name := "fnTorn", fn := fun _ => fun
  | [d] => { results := [.lit (.bool false)], args := [d] }
  | _ => none }
def FnTornWrongFalsely : Prop := fnTornRow.holds Tryz.pinned (OpenSpec.ofChange fnTornWrong)

/-- 'laws.FnNoSpill': WHATEVER THE INPUT: true; the input reads as it did. -/
def fnNoSpillSpec : ChangeSpec := { name := "fnNoSpill", fn := fun _ => fun
  | [d] => { results := [.lit (.bool true)], args := [d] }
  | _ => none }
def fnNoSpillRow : OpenClaim := { program := "ytacknlgegbagfaagreat", sum := "aeb3c8261d74d398023bb31e63548dad8c516557adf8ede1a170bbe9e267491b", func := "loop.example/g00289/laws.FnNoSpill", spec := "fnNoSpill", inPlace := ["internal/bytealg.IndexByteString", "internal/bytealg.IndexString"], unfollowed := true, recurses := true, named := ["internal/bytealg.MaxLen"], apart := false }
def FnNoSpillSaid : Prop := fnNoSpillRow.holds Tryz.pinned (OpenSpec.ofChange fnNoSpillSpec)

/-- ITS FALSE NEIGHBOUR: 'it returns false'. Refute it at one input. -/
def fnNoSpillWrong : ChangeSpec := { name := "fnNoSpill", fn := fun _ => fun
  | [d] => { results := [.lit (.bool false)], args := [d] }
  | _ => none }
def FnNoSpillWrongFalsely : Prop := fnNoSpillRow.holds Tryz.pinned (OpenSpec.ofChange fnNoSpillWrong)

/-- 'laws.FnRecs': WHATEVER THE INPUT: true; the input reads as it did. -/
def fnRecsSpec : ChangeSpec := { name := "fnRecs", fn := fun _ => fun
  | [d] => { results := [.lit (.bool true)], args := [d] }
  | _ => none }
def fnRecsRow : OpenClaim := { program := "ytacknlgegbagfaagreat", sum := "aeb3c8261d74d398023bb31e63548dad8c516557adf8ede1a170bbe9e267491b", func := "loop.example/g00289/laws.FnRecs", spec := "fnRecs", inPlace := ["internal/bytealg.IndexByteString", "internal/bytealg.IndexString"], unfollowed := true, recurses := true, named := ["internal/bytealg.MaxLen"], apart := false }
def FnRecsSaid : Prop := fnRecsRow.holds Tryz.pinned (OpenSpec.ofChange fnRecsSpec)

/-- ITS FALSE NEIGHBOUR: 'it returns false'. Refute it at one input. -/
def fnRecsWrong : ChangeSpec := { name := "fnRecs", fn := fun _ => fun
  | [d] => { results := [.lit (.bool false)], args := [d] }
  | _ => none }
def FnRecsWrongFalsely : Prop := fnRecsRow.holds Tryz.pinned (OpenSpec.ofChange fnRecsWrong)

/- THE SECOND FORM. 'bulk': how many values and letters a reading holds, each counted each time it is reached (what is shared counts as often as it is met; a slice's spare places count too). A statement '..UptoSaid' is the law's where the arguments, and the package variables that the reading takes, are together of bulk at most 1048576: NARROWER than '..Said'. Prove '..Said' where nothing that the law and all that it calls make is longer than what came in: it says more and counts as full. Else prove '..UptoSaid'. A law counts once. -/
mutual
def uptoBulk {H : Type} : DataW H → Nat
  | .lit (.string bytes) => bytes.length + 1
  | .lit _ => 1
  | .nil => 1
  | .ptr d => uptoBulk d + 1
  | .slice elems spare => uptoBulkAll elems + uptoBulkAll spare + 1
  | .agg parts => uptoBulkAll parts + 1
  | .iface _ d => uptoBulk d + 1
  | .map entries => uptoBulkEntries entries + 1
  | .held _ => 1
def uptoBulkAll {H : Type} : List (DataW H) → Nat
  | [] => 0
  | d :: r => uptoBulk d + uptoBulkAll r
def uptoBulkEntries {H : Type} : List (Lit × DataW H) → Nat
  | [] => 0
  | x :: r => uptoBulkEntry x + uptoBulkEntries r
def uptoBulkEntry {H : Type} : Lit × DataW H → Nat
  | (.string bytes, d) => bytes.length + uptoBulk d + 1
  | (_, d) => uptoBulk d + 1
 end
def uptoSmall : (H : Type) → List (DataW H) → Bool := fun _ ds => decide (uptoBulkAll ds ≤ 1048576)
def OpenSpec.upto (s : _root_.Go.ChangeSpec) : _root_.Go.OpenSpec := { _root_.Go.OpenSpec.ofChange s with cond := some uptoSmall }

/-- 'laws.FnTorn', WHERE WHAT IT READS IS OF BULK AT MOST 1048576: true; the input reads as it did. -/
def fnTornUptoRow : OpenClaim := { program := "ytacknlgegbagfaagreat", sum := "aeb3c8261d74d398023bb31e63548dad8c516557adf8ede1a170bbe9e267491b", func := "loop.example/g00289/laws.FnTorn", spec := "fnTorn", inPlace := ["internal/bytealg.IndexByteString", "internal/bytealg.IndexString"], unfollowed := true, recurses := true, named := ["internal/bytealg.MaxLen"], apart := false, narrowed := true }
def FnTornUptoSaid : Prop := fnTornUptoRow.holds Tryz.pinned (OpenSpec.upto fnTornSpec)

/-- 'laws.FnNoSpill', WHERE WHAT IT READS IS OF BULK AT MOST 1048576: true; the input reads as it did. -/
def fnNoSpillUptoRow : OpenClaim := { program := "ytacknlgegbagfaagreat", sum := "aeb3c8261d74d398023bb31e63548dad8c516557adf8ede1a170bbe9e267491b", func := "loop.example/g00289/laws.FnNoSpill", spec := "fnNoSpill", inPlace := ["internal/bytealg.IndexByteString", "internal/bytealg.IndexString"], unfollowed := true, recurses := true, named := ["internal/bytealg.MaxLen"], apart := false, narrowed := true }
def FnNoSpillUptoSaid : Prop := fnNoSpillUptoRow.holds Tryz.pinned (OpenSpec.upto fnNoSpillSpec)

/-- 'laws.FnRecs', WHERE WHAT IT READS IS OF BULK AT MOST 1048576: true; the input reads as it did. -/
def fnRecsUptoRow : OpenClaim := { program := "ytacknlgegbagfaagreat", sum := "aeb3c8261d74d398023bb31e63548dad8c516557adf8ede1a170bbe9e267491b", func := "loop.example/g00289/laws.FnRecs", spec := "fnRecs", inPlace := ["internal/bytealg.IndexByteString", "internal/bytealg.IndexString"], unfollowed := true, recurses := true, named := ["internal/bytealg.MaxLen"], apart := false, narrowed := true }
def FnRecsUptoSaid : Prop := fnRecsUptoRow.holds Tryz.pinned (OpenSpec.upto fnRecsSpec)

end Rows
end Go.Proofs.YtacknlgegbagfaaGreat
