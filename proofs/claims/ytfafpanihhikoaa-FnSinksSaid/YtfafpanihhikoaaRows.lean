/-
  No cell of these rows narrows 'for every input' (looked for: loops, veiled, ifaces, maps, wideKeys, modest, calm, conditions, laid).
  DERIVED. THE GIVEN ROWS OF THIS SEAT. 12 by the template 'for every input the law returns true; each argument reads behind the call as it read before'; 0 by the template 'total and deterministic' (their statements: YtfafpanihhikoaaTotals.lean).
  GIVEN WITH THE SEED: the statements are not yours to turn. If you find one false, say at which input.
  Laid BY PROGRAM, IN A SANDBOX (cutbox-rows.mjs): the forced cells as the released guide's own fill.sh prints them over the translation 5d3d5c5f488b4bf0… (all of the seat's roots in one cut). By AI agents, Wed Nov 11 2026. No macro, syntax, notation, axiom, sorry.
-/
import Derived.Test.YtfafpanihhikoaaChecked
import GoSem.Claim
import GoSem.ClaimJoined
import GoSem.ClaimMapViews
import Derived.JoinedTies
import Derived.KernelRfl
namespace Go.Proofs.Ytfafpanihhikoaa
/- THE CELL 'sum', in the pinned program and in every row, IS THE sha256 OF THE DUMP (.gsa) THAT YtfafpanihhikoaaProg.lean LOADS. Nothing in Lean hashes anything: it is a label: what it is worth is what the hold of that sum in a sandbox is worth. -/
noncomputable def Try.pinned : Pinned := { name := "ytfafpanihhikoaa", sum := "5d3d5c5f488b4bf07056b33f593525dc6d5ee8e5ac5360d6a19525d4b1719d3a", checked := Try.checked }
namespace Rows
def none {H : Type} : Left H := { results := [], args := [] }

/-- 'laws.FnExactMost': WHATEVER THE INPUT: true; the input reads as it did. -/
def fnExactMostSpec : ChangeSpec := { name := "fnExactMost", fn := fun _ => fun
  | [d] => { results := [.lit (.bool true)], args := [d] }
  | _ => none }
def fnExactMostRow : OpenClaim := { program := "ytfafpanihhikoaa", sum := "5d3d5c5f488b4bf07056b33f593525dc6d5ee8e5ac5360d6a19525d4b1719d3a", func := "loop.example/g00289/laws.FnExactMost", spec := "fnExactMost", apart := false }
def FnExactMostSaid : Prop := fnExactMostRow.holds Try.pinned (OpenSpec.ofChange fnExactMostSpec)

/-- ITS FALSE NEIGHBOUR: 'it returns false'. Refute it at one input. -/
def fnExactMostWrong : ChangeSpec := { name := "fnExactMost", fn := fun _ => fun
  | [d] => { results := [.lit (.bool false)], args := [d] }
  | _ => none }
def FnExactMostWrongFalsely : Prop := fnExactMostRow.holds Try.pinned (OpenSpec.ofChange fnExactMostWrong)

/-- 'laws.FnExactSinkOk': WHATEVER THE INPUT: true; the input reads as it did. -/
def fnExactSinkOkSpec : ChangeSpec := { name := "fnExactSinkOk", fn := fun _ => fun
  | [d] => { results := [.lit (.bool true)], args := [d] }
  | _ => none }
def fnExactSinkOkRow : OpenClaim := { program := "ytfafpanihhikoaa", sum := "5d3d5c5f488b4bf07056b33f593525dc6d5ee8e5ac5360d6a19525d4b1719d3a", func := "loop.example/g00289/laws.FnExactSinkOk", spec := "fnExactSinkOk", apart := false }
def FnExactSinkOkSaid : Prop := fnExactSinkOkRow.holds Try.pinned (OpenSpec.ofChange fnExactSinkOkSpec)

/-- ITS FALSE NEIGHBOUR: 'it returns false'. Refute it at one input. -/
def fnExactSinkOkWrong : ChangeSpec := { name := "fnExactSinkOk", fn := fun _ => fun
  | [d] => { results := [.lit (.bool false)], args := [d] }
  | _ => none }
def FnExactSinkOkWrongFalsely : Prop := fnExactSinkOkRow.holds Try.pinned (OpenSpec.ofChange fnExactSinkOkWrong)

/-- 'laws.FnExactSumOf': WHATEVER THE INPUT: true; the input reads as it did. -/
def fnExactSumOfSpec : ChangeSpec := { name := "fnExactSumOf", fn := fun _ => fun
  | [d] => { results := [.lit (.bool true)], args := [d] }
  | _ => none }
def fnExactSumOfRow : OpenClaim := { program := "ytfafpanihhikoaa", sum := "5d3d5c5f488b4bf07056b33f593525dc6d5ee8e5ac5360d6a19525d4b1719d3a", func := "loop.example/g00289/laws.FnExactSumOf", spec := "fnExactSumOf", apart := false }
def FnExactSumOfSaid : Prop := fnExactSumOfRow.holds Try.pinned (OpenSpec.ofChange fnExactSumOfSpec)

/-- ITS FALSE NEIGHBOUR: 'it returns false'. Refute it at one input. -/
def fnExactSumOfWrong : ChangeSpec := { name := "fnExactSumOf", fn := fun _ => fun
  | [d] => { results := [.lit (.bool false)], args := [d] }
  | _ => none }
def FnExactSumOfWrongFalsely : Prop := fnExactSumOfRow.holds Try.pinned (OpenSpec.ofChange fnExactSumOfWrong)

/-- 'laws.FnExactDiskOk': WHATEVER THE INPUT: true; the input reads as it did. -/
def fnExactDiskOkSpec : ChangeSpec := { name := "fnExactDiskOk", fn := fun _ => fun
  | [d] => { results := [.lit (.bool true)], args := [d] }
  | _ => none }
def fnExactDiskOkRow : OpenClaim := { program := "ytfafpanihhikoaa", sum := "5d3d5c5f488b4bf07056b33f593525dc6d5ee8e5ac5360d6a19525d4b1719d3a", func := "loop.example/g00289/laws.FnExactDiskOk", spec := "fnExactDiskOk", apart := false }
def FnExactDiskOkSaid : Prop := fnExactDiskOkRow.holds Try.pinned (OpenSpec.ofChange fnExactDiskOkSpec)

/-- ITS FALSE NEIGHBOUR: 'it returns false'. Refute it at one input. -/
def fnExactDiskOkWrong : ChangeSpec := { name := "fnExactDiskOk", fn := fun _ => fun
  | [d] => { results := [.lit (.bool false)], args := [d] }
  | _ => none }
def FnExactDiskOkWrongFalsely : Prop := fnExactDiskOkRow.holds Try.pinned (OpenSpec.ofChange fnExactDiskOkWrong)

/-- 'laws.FnExactOffer': WHATEVER THE INPUT: true; the input reads as it did. -/
def fnExactOfferSpec : ChangeSpec := { name := "fnExactOffer", fn := fun _ => fun
  | [d1, d2, d3, d4] => { results := [.lit (.bool true)], args := [d1, d2, d3, d4] }
  | _ => none }
def fnExactOfferRow : OpenClaim := { program := "ytfafpanihhikoaa", sum := "5d3d5c5f488b4bf07056b33f593525dc6d5ee8e5ac5360d6a19525d4b1719d3a", func := "loop.example/g00289/laws.FnExactOffer", spec := "fnExactOffer", apart := false }
def FnExactOfferSaid : Prop := fnExactOfferRow.holds Try.pinned (OpenSpec.ofChange fnExactOfferSpec)

/-- ITS FALSE NEIGHBOUR: 'it returns false'. Refute it at one input. -/
def fnExactOfferWrong : ChangeSpec := { name := "fnExactOffer", fn := fun _ => fun
  | [d1, d2, d3, d4] => { results := [.lit (.bool false)], args := [d1, d2, d3, d4] }
  | _ => none }
def FnExactOfferWrongFalsely : Prop := fnExactOfferRow.holds Try.pinned (OpenSpec.ofChange fnExactOfferWrong)

/-- 'laws.FnExactGetText': WHATEVER THE INPUT: true; the input reads as it did. -/
def fnExactGetTextSpec : ChangeSpec := { name := "fnExactGetText", fn := fun _ => fun
  | [d1, d2] => { results := [.lit (.bool true)], args := [d1, d2] }
  | _ => none }
def fnExactGetTextRow : OpenClaim := { program := "ytfafpanihhikoaa", sum := "5d3d5c5f488b4bf07056b33f593525dc6d5ee8e5ac5360d6a19525d4b1719d3a", func := "loop.example/g00289/laws.FnExactGetText", spec := "fnExactGetText", apart := false }
def FnExactGetTextSaid : Prop := fnExactGetTextRow.holds Try.pinned (OpenSpec.ofChange fnExactGetTextSpec)

/-- ITS FALSE NEIGHBOUR: 'it returns false'. Refute it at one input. -/
def fnExactGetTextWrong : ChangeSpec := { name := "fnExactGetText", fn := fun _ => fun
  | [d1, d2] => { results := [.lit (.bool false)], args := [d1, d2] }
  | _ => none }
def FnExactGetTextWrongFalsely : Prop := fnExactGetTextRow.holds Try.pinned (OpenSpec.ofChange fnExactGetTextWrong)

/-- 'laws.FnExactPutInt': WHATEVER THE INPUT: true; the input reads as it did. -/
def fnExactPutIntSpec : ChangeSpec := { name := "fnExactPutInt", fn := fun _ => fun
  | [d] => { results := [.lit (.bool true)], args := [d] }
  | _ => none }
def fnExactPutIntRow : OpenClaim := { program := "ytfafpanihhikoaa", sum := "5d3d5c5f488b4bf07056b33f593525dc6d5ee8e5ac5360d6a19525d4b1719d3a", func := "loop.example/g00289/laws.FnExactPutInt", spec := "fnExactPutInt", apart := false }
def FnExactPutIntSaid : Prop := fnExactPutIntRow.holds Try.pinned (OpenSpec.ofChange fnExactPutIntSpec)

/-- ITS FALSE NEIGHBOUR: 'it returns false'. Refute it at one input. -/
def fnExactPutIntWrong : ChangeSpec := { name := "fnExactPutInt", fn := fun _ => fun
  | [d] => { results := [.lit (.bool false)], args := [d] }
  | _ => none }
def FnExactPutIntWrongFalsely : Prop := fnExactPutIntRow.holds Try.pinned (OpenSpec.ofChange fnExactPutIntWrong)

/-- 'laws.FnExactGetInt': WHATEVER THE INPUT: true; the input reads as it did. -/
def fnExactGetIntSpec : ChangeSpec := { name := "fnExactGetInt", fn := fun _ => fun
  | [d1, d2] => { results := [.lit (.bool true)], args := [d1, d2] }
  | _ => none }
def fnExactGetIntRow : OpenClaim := { program := "ytfafpanihhikoaa", sum := "5d3d5c5f488b4bf07056b33f593525dc6d5ee8e5ac5360d6a19525d4b1719d3a", func := "loop.example/g00289/laws.FnExactGetInt", spec := "fnExactGetInt", apart := false }
def FnExactGetIntSaid : Prop := fnExactGetIntRow.holds Try.pinned (OpenSpec.ofChange fnExactGetIntSpec)

/-- ITS FALSE NEIGHBOUR: 'it returns false'. Refute it at one input. -/
def fnExactGetIntWrong : ChangeSpec := { name := "fnExactGetInt", fn := fun _ => fun
  | [d1, d2] => { results := [.lit (.bool false)], args := [d1, d2] }
  | _ => none }
def FnExactGetIntWrongFalsely : Prop := fnExactGetIntRow.holds Try.pinned (OpenSpec.ofChange fnExactGetIntWrong)

/-- 'laws.FnSinks': WHATEVER THE INPUT: true; the input reads as it did. -/
def fnSinksSpec : ChangeSpec := { name := "fnSinks", fn := fun _ => fun
  | [d] => { results := [.lit (.bool true)], args := [d] }
  | _ => none }
def fnSinksRow : OpenClaim := { program := "ytfafpanihhikoaa", sum := "5d3d5c5f488b4bf07056b33f593525dc6d5ee8e5ac5360d6a19525d4b1719d3a", func := "loop.example/g00289/laws.FnSinks", spec := "fnSinks", apart := false }
def FnSinksSaid : Prop := fnSinksRow.holds Try.pinned (OpenSpec.ofChange fnSinksSpec)

/-- ITS FALSE NEIGHBOUR: 'it returns false'. Refute it at one input. -/
def fnSinksWrong : ChangeSpec := { name := "fnSinks", fn := fun _ => fun
  | [d] => { results := [.lit (.bool false)], args := [d] }
  | _ => none }
def FnSinksWrongFalsely : Prop := fnSinksRow.holds Try.pinned (OpenSpec.ofChange fnSinksWrong)

/-- 'laws.FnExactSync': WHATEVER THE INPUT: true; the input reads as it did. -/
def fnExactSyncSpec : ChangeSpec := { name := "fnExactSync", fn := fun _ => fun
  | [d] => { results := [.lit (.bool true)], args := [d] }
  | _ => none }
def fnExactSyncRow : OpenClaim := { program := "ytfafpanihhikoaa", sum := "5d3d5c5f488b4bf07056b33f593525dc6d5ee8e5ac5360d6a19525d4b1719d3a", func := "loop.example/g00289/laws.FnExactSync", spec := "fnExactSync", apart := false }
def FnExactSyncSaid : Prop := fnExactSyncRow.holds Try.pinned (OpenSpec.ofChange fnExactSyncSpec)

/-- ITS FALSE NEIGHBOUR: 'it returns false'. Refute it at one input. -/
def fnExactSyncWrong : ChangeSpec := { name := "fnExactSync", fn := fun _ => fun
  | [d] => { results := [.lit (.bool false)], args := [d] }
  | _ => none }
def FnExactSyncWrongFalsely : Prop := fnExactSyncRow.holds Try.pinned (OpenSpec.ofChange fnExactSyncWrong)

/-- 'laws.FnExactAppend': WHATEVER THE INPUT: true; the input reads as it did. -/
def fnExactAppendSpec : ChangeSpec := { name := "fnExactAppend", fn := fun _ => fun
  | [d1, d2] => { results := [.lit (.bool true)], args := [d1, d2] }
  | _ => none }
def fnExactAppendRow : OpenClaim := { program := "ytfafpanihhikoaa", sum := "5d3d5c5f488b4bf07056b33f593525dc6d5ee8e5ac5360d6a19525d4b1719d3a", func := "loop.example/g00289/laws.FnExactAppend", spec := "fnExactAppend", apart := false }
def FnExactAppendSaid : Prop := fnExactAppendRow.holds Try.pinned (OpenSpec.ofChange fnExactAppendSpec)

/-- ITS FALSE NEIGHBOUR: 'it returns false'. Refute it at one input. -/
def fnExactAppendWrong : ChangeSpec := { name := "fnExactAppend", fn := fun _ => fun
  | [d1, d2] => { results := [.lit (.bool false)], args := [d1, d2] }
  | _ => none }
def FnExactAppendWrongFalsely : Prop := fnExactAppendRow.holds Try.pinned (OpenSpec.ofChange fnExactAppendWrong)

/-- 'laws.FnExactLastOf': WHATEVER THE INPUT: true; the input reads as it did. -/
def fnExactLastOfSpec : ChangeSpec := { name := "fnExactLastOf", fn := fun _ => fun
  | [d] => { results := [.lit (.bool true)], args := [d] }
  | _ => none }
def fnExactLastOfRow : OpenClaim := { program := "ytfafpanihhikoaa", sum := "5d3d5c5f488b4bf07056b33f593525dc6d5ee8e5ac5360d6a19525d4b1719d3a", func := "loop.example/g00289/laws.FnExactLastOf", spec := "fnExactLastOf", apart := false }
def FnExactLastOfSaid : Prop := fnExactLastOfRow.holds Try.pinned (OpenSpec.ofChange fnExactLastOfSpec)

/-- ITS FALSE NEIGHBOUR: 'it returns false'. Refute it at one input. -/
def fnExactLastOfWrong : ChangeSpec := { name := "fnExactLastOf", fn := fun _ => fun
  | [d] => { results := [.lit (.bool false)], args := [d] }
  | _ => none }
def FnExactLastOfWrongFalsely : Prop := fnExactLastOfRow.holds Try.pinned (OpenSpec.ofChange fnExactLastOfWrong)

/- THE SECOND FORM. 'bulk': how many values and letters a reading holds, each counted each time it is reached (what is shared counts as often as it is met; a slice's spare places count too). A statement '..UptoSaid' is the law's where the arguments, and the package variables that the reading takes, are together of bulk at most 1048576: NARROWER than '..Said'. Prove '..Said' where nothing that the law and all that it calls make is longer than what came in: it says more and counts as full. Else prove '..UptoSaid'. A law counts once. -/
mutual
def uptoBulk {H : Type} : DataW H → Nat
  | .lit (.string bytes) => bytes.length + 1
  | .lit _ => 1
  | .nil => 1
  | .ptr d => uptoBulk d + 1
  | .slice elems spare => uptoBulkAll elems + uptoBulkAll spare + 1
  | .agg parts => uptoBulkAll parts + 1
  | .iface _ d => uptoBulk d + 1
  | .map entries => uptoBulkEntries entries + 1
  | .held _ => 1
def uptoBulkAll {H : Type} : List (DataW H) → Nat
  | [] => 0
  | d :: r => uptoBulk d + uptoBulkAll r
def uptoBulkEntries {H : Type} : List (Lit × DataW H) → Nat
  | [] => 0
  | x :: r => uptoBulkEntry x + uptoBulkEntries r
def uptoBulkEntry {H : Type} : Lit × DataW H → Nat
  | (.string bytes, d) => bytes.length + uptoBulk d + 1
  | (_, d) => uptoBulk d + 1
 end
def uptoSmall : (H : Type) → List (DataW H) → Bool := fun _ ds => decide (uptoBulkAll ds ≤ 1048576)
def OpenSpec.upto (s : _root_.Go.ChangeSpec) : _root_.Go.OpenSpec := { _root_.Go.OpenSpec.ofChange s with cond := some uptoSmall }

/-- 'laws.FnExactMost', WHERE WHAT IT READS IS OF BULK AT MOST 1048576: true; the input reads as it did. -/
def fnExactMostUptoRow : OpenClaim := { program := "ytfafpanihhikoaa", sum := "5d3d5c5f488b4bf07056b33f593525dc6d5ee8e5ac5360d6a19525d4b1719d3a", func := "loop.example/g00289/laws.FnExactMost", spec := "fnExactMost", apart := false, narrowed := true }
def FnExactMostUptoSaid : Prop := fnExactMostUptoRow.holds Try.pinned (OpenSpec.upto fnExactMostSpec)

/-- 'laws.FnExactSinkOk', WHERE WHAT IT READS IS OF BULK AT MOST 1048576: true; the input reads as it did. -/
def fnExactSinkOkUptoRow : OpenClaim := { program := "ytfafpanihhikoaa", sum := "5d3d5c5f488b4bf07056b33f593525dc6d5ee8e5ac5360d6a19525d4b1719d3a", func := "loop.example/g00289/laws.FnExactSinkOk", spec := "fnExactSinkOk", apart := false, narrowed := true }
def FnExactSinkOkUptoSaid : Prop := fnExactSinkOkUptoRow.holds Try.pinned (OpenSpec.upto fnExactSinkOkSpec)

/-- 'laws.FnExactSumOf', WHERE WHAT IT READS IS OF BULK AT MOST 1048576: true; the input reads as it did. -/
def fnExactSumOfUptoRow : OpenClaim := { program := "ytfafpanihhikoaa", sum := "5d3d5c5f488b4bf07056b33f593525dc6d5ee8e5ac5360d6a19525d4b1719d3a", func := "loop.example/g00289/laws.FnExactSumOf", spec := "fnExactSumOf", apart := false, narrowed := true }
def FnExactSumOfUptoSaid : Prop := fnExactSumOfUptoRow.holds Try.pinned (OpenSpec.upto fnExactSumOfSpec)

/-- 'laws.FnExactDiskOk', WHERE WHAT IT READS IS OF BULK AT MOST 1048576: true; the input reads as it did. -/
def fnExactDiskOkUptoRow : OpenClaim := { program := "ytfafpanihhikoaa", sum := "5d3d5c5f488b4bf07056b33f593525dc6d5ee8e5ac5360d6a19525d4b1719d3a", func := "loop.example/g00289/laws.FnExactDiskOk", spec := "fnExactDiskOk", apart := false, narrowed := true }
def FnExactDiskOkUptoSaid : Prop := fnExactDiskOkUptoRow.holds Try.pinned (OpenSpec.upto fnExactDiskOkSpec)

/-- 'laws.FnExactOffer', WHERE WHAT IT READS IS OF BULK AT MOST 1048576: true; the input reads as it did. -/
def fnExactOfferUptoRow : OpenClaim := { program := "ytfafpanihhikoaa", sum := "5d3d5c5f488b4bf07056b33f593525dc6d5ee8e5ac5360d6a19525d4b1719d3a", func := "loop.example/g00289/laws.FnExactOffer", spec := "fnExactOffer", apart := false, narrowed := true }
def FnExactOfferUptoSaid : Prop := fnExactOfferUptoRow.holds Try.pinned (OpenSpec.upto fnExactOfferSpec)

/-- 'laws.FnExactGetText', WHERE WHAT IT READS IS OF BULK AT MOST 1048576: true; the input reads as it did. -/
def fnExactGetTextUptoRow : OpenClaim := { program := "ytfafpanihhikoaa", sum := "5d3d5c5f488b4bf07056b33f593525dc6d5ee8e5ac5360d6a19525d4b1719d3a", func := "loop.example/g00289/laws.FnExactGetText", spec := "fnExactGetText", apart := false, narrowed := true }
def FnExactGetTextUptoSaid : Prop := fnExactGetTextUptoRow.holds Try.pinned (OpenSpec.upto fnExactGetTextSpec)

/-- 'laws.FnExactPutInt', WHERE WHAT IT READS IS OF BULK AT MOST 1048576: true; the input reads as it did. -/
def fnExactPutIntUptoRow : OpenClaim := { program := "ytfafpanihhikoaa", sum := "5d3d5c5f488b4bf07056b33f593525dc6d5ee8e5ac5360d6a19525d4b1719d3a", func := "loop.example/g00289/laws.FnExactPutInt", spec := "fnExactPutInt", apart := false, narrowed := true }
def FnExactPutIntUptoSaid : Prop := fnExactPutIntUptoRow.holds Try.pinned (OpenSpec.upto fnExactPutIntSpec)

/-- 'laws.FnExactGetInt', WHERE WHAT IT READS IS OF BULK AT MOST 1048576: true; the input reads as it did. -/
def fnExactGetIntUptoRow : OpenClaim := { program := "ytfafpanihhikoaa", sum := "5d3d5c5f488b4bf07056b33f593525dc6d5ee8e5ac5360d6a19525d4b1719d3a", func := "loop.example/g00289/laws.FnExactGetInt", spec := "fnExactGetInt", apart := false, narrowed := true }
def FnExactGetIntUptoSaid : Prop := fnExactGetIntUptoRow.holds Try.pinned (OpenSpec.upto fnExactGetIntSpec)

/-- 'laws.FnSinks', WHERE WHAT IT READS IS OF BULK AT MOST 1048576: true; the input reads as it did. -/
def fnSinksUptoRow : OpenClaim := { program := "ytfafpanihhikoaa", sum := "5d3d5c5f488b4bf07056b33f593525dc6d5ee8e5ac5360d6a19525d4b1719d3a", func := "loop.example/g00289/laws.FnSinks", spec := "fnSinks", apart := false, narrowed := true }
def FnSinksUptoSaid : Prop := fnSinksUptoRow.holds Try.pinned (OpenSpec.upto fnSinksSpec)

/-- 'laws.FnExactSync', WHERE WHAT IT READS IS OF BULK AT MOST 1048576: true; the input reads as it did. -/
def fnExactSyncUptoRow : OpenClaim := { program := "ytfafpanihhikoaa", sum := "5d3d5c5f488b4bf07056b33f593525dc6d5ee8e5ac5360d6a19525d4b1719d3a", func := "loop.example/g00289/laws.FnExactSync", spec := "fnExactSync", apart := false, narrowed := true }
def FnExactSyncUptoSaid : Prop := fnExactSyncUptoRow.holds Try.pinned (OpenSpec.upto fnExactSyncSpec)

/-- 'laws.FnExactAppend', WHERE WHAT IT READS IS OF BULK AT MOST 1048576: true; the input reads as it did. -/
def fnExactAppendUptoRow : OpenClaim := { program := "ytfafpanihhikoaa", sum := "5d3d5c5f488b4bf07056b33f593525dc6d5ee8e5ac5360d6a19525d4b1719d3a", func := "loop.example/g00289/laws.FnExactAppend", spec := "fnExactAppend", apart := false, narrowed := true }
def FnExactAppendUptoSaid : Prop := fnExactAppendUptoRow.holds Try.pinned (OpenSpec.upto fnExactAppendSpec)

/-- 'laws.FnExactLastOf', WHERE WHAT IT READS IS OF BULK AT MOST 1048576: true; the input reads as it did. -/
def fnExactLastOfUptoRow : OpenClaim := { program := "ytfafpanihhikoaa", sum := "5d3d5c5f488b4bf07056b33f593525dc6d5ee8e5ac5360d6a19525d4b1719d3a", func := "loop.example/g00289/laws.FnExactLastOf", spec := "fnExactLastOf", apart := false, narrowed := true }
def FnExactLastOfUptoSaid : Prop := fnExactLastOfUptoRow.holds Try.pinned (OpenSpec.upto fnExactLastOfSpec)

end Rows
end Go.Proofs.Ytfafpanihhikoaa
