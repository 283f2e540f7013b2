/-
  No cell of these rows narrows 'for every input' (looked for: loops, veiled, ifaces, maps, wideKeys, modest, calm, conditions, laid).
  DERIVED. THE GIVEN ROWS OF THIS SEAT. 12 by the template 'for every input the law returns true; each argument reads behind the call as it read before'; 0 by the template 'total and deterministic' (their statements: YtajahbpeiifcbaaTotals.lean).
  GIVEN WITH THE SEED: the statements are not yours to turn. If you find one false, say at which input.
  Laid BY PROGRAM, IN A SANDBOX (cutbox-rows.mjs): the forced cells as the released guide's own fill.sh prints them over the translation a11e1b8a62618c2f… (all of the seat's roots in one cut). By AI agents, Wed Nov 11 2026. No macro, syntax, notation, axiom, sorry.
-/
import Derived.Test.YtajahbpeiifcbaaChecked
import GoSem.Claim
import GoSem.ClaimJoined
import GoSem.ClaimMapViews
import Derived.JoinedTies
import Derived.KernelRfl
namespace Go.Proofs.Ytajahbpeiifcbaa
/- THE CELL 'sum', in the pinned program and in every row, IS THE sha256 OF THE DUMP (.gsa) THAT YtajahbpeiifcbaaProg.lean LOADS. Nothing in Lean hashes anything: it is a label: what it is worth is what the hold of that sum in a sandbox is worth. -/
noncomputable def Try.pinned : Pinned := { name := "ytajahbpeiifcbaa", sum := "a11e1b8a62618c2fa8bd8c6785c8b80364230f0b829e4df37be976c3502c4ce6", checked := Try.checked }
namespace Rows
def none {H : Type} : Left H := { results := [], args := [] }

/-- 'laws.FnExactFall': WHATEVER THE INPUT: true; the input reads as it did. -/
def fnExactFallSpec : ChangeSpec := { name := "fnExactFall", fn := fun _ => fun
  | [d1, d2] => { results := [.lit (.bool true)], args := [d1, d2] }
  | _ => none }
def fnExactFallRow : OpenClaim := { program := "ytajahbpeiifcbaa", sum := "a11e1b8a62618c2fa8bd8c6785c8b80364230f0b829e4df37be976c3502c4ce6", func := "loop.example/g00289/laws.FnExactFall", spec := "fnExactFall", apart := false }
def FnExactFallSaid : Prop := fnExactFallRow.holds Try.pinned (OpenSpec.ofChange fnExactFallSpec)

/-- ITS FALSE NEIGHBOUR: 'it returns false'. Refute it at one input. -/
def fnExactFallWrong : ChangeSpec := { name := "fnExactFall", fn := fun _ => fun
  | [d1, d2] => { results := [.lit (.bool false)], args := [d1, d2] }
  | _ => none }
def FnExactFallWrongFalsely : Prop := fnExactFallRow.holds Try.pinned (OpenSpec.ofChange fnExactFallWrong)

/-- 'laws.FnExactNewer': WHATEVER THE INPUT: true; the input reads as it did. -/
def fnExactNewerSpec : ChangeSpec := { name := "fnExactNewer", fn := fun _ => fun
  | [d1, d2, d3] => { results := [.lit (.bool true)], args := [d1, d2, d3] }
  | _ => none }
def fnExactNewerRow : OpenClaim := { program := "ytajahbpeiifcbaa", sum := "a11e1b8a62618c2fa8bd8c6785c8b80364230f0b829e4df37be976c3502c4ce6", func := "loop.example/g00289/laws.FnExactNewer", spec := "fnExactNewer", apart := false }
def FnExactNewerSaid : Prop := fnExactNewerRow.holds Try.pinned (OpenSpec.ofChange fnExactNewerSpec)

/-- ITS FALSE NEIGHBOUR: 'it returns false'. Refute it at one input. -/
def fnExactNewerWrong : ChangeSpec := { name := "fnExactNewer", fn := fun _ => fun
  | [d1, d2, d3] => { results := [.lit (.bool false)], args := [d1, d2, d3] }
  | _ => none }
def FnExactNewerWrongFalsely : Prop := fnExactNewerRow.holds Try.pinned (OpenSpec.ofChange fnExactNewerWrong)

/-- 'laws.FnExactTermAt': WHATEVER THE INPUT: true; the input reads as it did. -/
def fnExactTermAtSpec : ChangeSpec := { name := "fnExactTermAt", fn := fun _ => fun
  | [d1, d2] => { results := [.lit (.bool true)], args := [d1, d2] }
  | _ => none }
def fnExactTermAtRow : OpenClaim := { program := "ytajahbpeiifcbaa", sum := "a11e1b8a62618c2fa8bd8c6785c8b80364230f0b829e4df37be976c3502c4ce6", func := "loop.example/g00289/laws.FnExactTermAt", spec := "fnExactTermAt", apart := false }
def FnExactTermAtSaid : Prop := fnExactTermAtRow.holds Try.pinned (OpenSpec.ofChange fnExactTermAtSpec)

/-- ITS FALSE NEIGHBOUR: 'it returns false'. Refute it at one input. -/
def fnExactTermAtWrong : ChangeSpec := { name := "fnExactTermAt", fn := fun _ => fun
  | [d1, d2] => { results := [.lit (.bool false)], args := [d1, d2] }
  | _ => none }
def FnExactTermAtWrongFalsely : Prop := fnExactTermAtRow.holds Try.pinned (OpenSpec.ofChange fnExactTermAtWrong)

/-- 'laws.FnBytes': WHATEVER THE INPUT: true; the input reads as it did. -/
def fnBytesSpec : ChangeSpec := { name := "fnBytes", fn := fun _ => fun
  | [d] => { results := [.lit (.bool true)], args := [d] }
  | _ => none }
def fnBytesRow : OpenClaim := { program := "ytajahbpeiifcbaa", sum := "a11e1b8a62618c2fa8bd8c6785c8b80364230f0b829e4df37be976c3502c4ce6", func := "loop.example/g00289/laws.FnBytes", spec := "fnBytes", apart := false }
def FnBytesSaid : Prop := fnBytesRow.holds Try.pinned (OpenSpec.ofChange fnBytesSpec)

/-- ITS FALSE NEIGHBOUR: 'it returns false'. Refute it at one input. -/
def fnBytesWrong : ChangeSpec := { name := "fnBytes", fn := fun _ => fun
  | [d] => { results := [.lit (.bool false)], args := [d] }
  | _ => none }
def FnBytesWrongFalsely : Prop := fnBytesRow.holds Try.pinned (OpenSpec.ofChange fnBytesWrong)

/-- 'laws.FnExactFrom': WHATEVER THE INPUT: true; the input reads as it did. -/
def fnExactFromSpec : ChangeSpec := { name := "fnExactFrom", fn := fun _ => fun
  | [d1, d2] => { results := [.lit (.bool true)], args := [d1, d2] }
  | _ => none }
def fnExactFromRow : OpenClaim := { program := "ytajahbpeiifcbaa", sum := "a11e1b8a62618c2fa8bd8c6785c8b80364230f0b829e4df37be976c3502c4ce6", func := "loop.example/g00289/laws.FnExactFrom", spec := "fnExactFrom", apart := false }
def FnExactFromSaid : Prop := fnExactFromRow.holds Try.pinned (OpenSpec.ofChange fnExactFromSpec)

/-- ITS FALSE NEIGHBOUR: 'it returns false'. Refute it at one input. -/
def fnExactFromWrong : ChangeSpec := { name := "fnExactFrom", fn := fun _ => fun
  | [d1, d2] => { results := [.lit (.bool false)], args := [d1, d2] }
  | _ => none }
def FnExactFromWrongFalsely : Prop := fnExactFromRow.holds Try.pinned (OpenSpec.ofChange fnExactFromWrong)

/-- 'laws.FnExactLogCut': WHATEVER THE INPUT: true; the input reads as it did. -/
def fnExactLogCutSpec : ChangeSpec := { name := "fnExactLogCut", fn := fun _ => fun
  | [d1, d2] => { results := [.lit (.bool true)], args := [d1, d2] }
  | _ => none }
def fnExactLogCutRow : OpenClaim := { program := "ytajahbpeiifcbaa", sum := "a11e1b8a62618c2fa8bd8c6785c8b80364230f0b829e4df37be976c3502c4ce6", func := "loop.example/g00289/laws.FnExactLogCut", spec := "fnExactLogCut", apart := false }
def FnExactLogCutSaid : Prop := fnExactLogCutRow.holds Try.pinned (OpenSpec.ofChange fnExactLogCutSpec)

/-- ITS FALSE NEIGHBOUR: 'it returns false'. Refute it at one input. -/
def fnExactLogCutWrong : ChangeSpec := { name := "fnExactLogCut", fn := fun _ => fun
  | [d1, d2] => { results := [.lit (.bool false)], args := [d1, d2] }
  | _ => none }
def FnExactLogCutWrongFalsely : Prop := fnExactLogCutRow.holds Try.pinned (OpenSpec.ofChange fnExactLogCutWrong)

/-- 'laws.FnExactLogOk': WHATEVER THE INPUT: true; the input reads as it did. -/
def fnExactLogOkSpec : ChangeSpec := { name := "fnExactLogOk", fn := fun _ => fun
  | [d] => { results := [.lit (.bool true)], args := [d] }
  | _ => none }
def fnExactLogOkRow : OpenClaim := { program := "ytajahbpeiifcbaa", sum := "a11e1b8a62618c2fa8bd8c6785c8b80364230f0b829e4df37be976c3502c4ce6", func := "loop.example/g00289/laws.FnExactLogOk", spec := "fnExactLogOk", inPlace := ["internal/bytealg.IndexByteString", "internal/bytealg.IndexString"], named := ["internal/bytealg.MaxLen"], apart := false }
def FnExactLogOkSaid : Prop := fnExactLogOkRow.holds Try.pinned (OpenSpec.ofChange fnExactLogOkSpec)

/-- ITS FALSE NEIGHBOUR: 'it returns false'. Refute it at one input. -/
def fnExactLogOkWrong : ChangeSpec := { name := "fnExactLogOk", fn := fun _ => fun
  | [d] => { results := [.lit (.bool false)], args := [d] }
  | _ => none }
def FnExactLogOkWrongFalsely : Prop := fnExactLogOkRow.holds Try.pinned (OpenSpec.ofChange fnExactLogOkWrong)

/-- 'laws.FnExactRpcOk': WHATEVER THE INPUT: true; the input reads as it did. -/
def fnExactRpcOkSpec : ChangeSpec := { name := "fnExactRpcOk", fn := fun _ => fun
  | [d1, d2] => { results := [.lit (.bool true)], args := [d1, d2] }
  | _ => none }
def fnExactRpcOkRow : OpenClaim := { program := "ytajahbpeiifcbaa", sum := "a11e1b8a62618c2fa8bd8c6785c8b80364230f0b829e4df37be976c3502c4ce6", func := "loop.example/g00289/laws.FnExactRpcOk", spec := "fnExactRpcOk", inPlace := ["internal/bytealg.IndexByteString", "internal/bytealg.IndexString"], unfollowed := true, recurses := true, named := ["internal/bytealg.MaxLen"], apart := false }
def FnExactRpcOkSaid : Prop := fnExactRpcOkRow.holds Try.pinned (OpenSpec.ofChange fnExactRpcOkSpec)

/-- ITS FALSE NEIGHBOUR: 'it returns false'. Refute it at one input. -/
def fnExactRpcOkWrong : ChangeSpec := { name := "fnExactRpcOk", fn := fun _ => fun
  | [d1, d2] => { results := [.lit (.bool false)], args := [d1, d2] }
  | _ => none }
def FnExactRpcOkWrongFalsely : Prop := fnExactRpcOkRow.holds Try.pinned (OpenSpec.ofChange fnExactRpcOkWrong)

/-- 'laws.FnExactRecOk': WHATEVER THE INPUT: true; the input reads as it did. -/
def fnExactRecOkSpec : ChangeSpec := { name := "fnExactRecOk", fn := fun _ => fun
  | [d] => { results := [.lit (.bool true)], args := [d] }
  | _ => none }
def fnExactRecOkRow : OpenClaim := { program := "ytajahbpeiifcbaa", sum := "a11e1b8a62618c2fa8bd8c6785c8b80364230f0b829e4df37be976c3502c4ce6", func := "loop.example/g00289/laws.FnExactRecOk", spec := "fnExactRecOk", inPlace := ["internal/bytealg.IndexByteString", "internal/bytealg.IndexString"], unfollowed := true, recurses := true, named := ["internal/bytealg.MaxLen"], apart := false }
def FnExactRecOkSaid : Prop := fnExactRecOkRow.holds Try.pinned (OpenSpec.ofChange fnExactRecOkSpec)

/-- ITS FALSE NEIGHBOUR: 'it returns false'. Refute it at one input. -/
def fnExactRecOkWrong : ChangeSpec := { name := "fnExactRecOk", fn := fun _ => fun
  | [d] => { results := [.lit (.bool false)], args := [d] }
  | _ => none }
def FnExactRecOkWrongFalsely : Prop := fnExactRecOkRow.holds Try.pinned (OpenSpec.ofChange fnExactRecOkWrong)

/-- 'laws.FnExactLogPut': WHATEVER THE INPUT: true; the input reads as it did. -/
def fnExactLogPutSpec : ChangeSpec := { name := "fnExactLogPut", fn := fun _ => fun
  | [d1, d2, d3, d4] => { results := [.lit (.bool true)], args := [d1, d2, d3, d4] }
  | _ => none }
def fnExactLogPutRow : OpenClaim := { program := "ytajahbpeiifcbaa", sum := "a11e1b8a62618c2fa8bd8c6785c8b80364230f0b829e4df37be976c3502c4ce6", func := "loop.example/g00289/laws.FnExactLogPut", spec := "fnExactLogPut", inPlace := ["internal/bytealg.IndexByteString", "internal/bytealg.IndexString"], named := ["internal/bytealg.MaxLen"], apart := false }
def FnExactLogPutSaid : Prop := fnExactLogPutRow.holds Try.pinned (OpenSpec.ofChange fnExactLogPutSpec)

/-- ITS FALSE NEIGHBOUR: 'it returns false'. Refute it at one input. -/
def fnExactLogPutWrong : ChangeSpec := { name := "fnExactLogPut", fn := fun _ => fun
  | [d1, d2, d3, d4] => { results := [.lit (.bool false)], args := [d1, d2, d3, d4] }
  | _ => none }
def FnExactLogPutWrongFalsely : Prop := fnExactLogPutRow.holds Try.pinned (OpenSpec.ofChange fnExactLogPutWrong)

/-- 'laws.FnLogs': WHATEVER THE INPUT: true; the input reads as it did. -/
def fnLogsSpec : ChangeSpec := { name := "fnLogs", fn := fun _ => fun
  | [d] => { results := [.lit (.bool true)], args := [d] }
  | _ => none }
def fnLogsRow : OpenClaim := { program := "ytajahbpeiifcbaa", sum := "a11e1b8a62618c2fa8bd8c6785c8b80364230f0b829e4df37be976c3502c4ce6", func := "loop.example/g00289/laws.FnLogs", spec := "fnLogs", inPlace := ["internal/bytealg.IndexByteString", "internal/bytealg.IndexString"], named := ["internal/bytealg.MaxLen"], apart := false }
def FnLogsSaid : Prop := fnLogsRow.holds Try.pinned (OpenSpec.ofChange fnLogsSpec)

/-- ITS FALSE NEIGHBOUR: 'it returns false'. Refute it at one input. -/
def fnLogsWrong : ChangeSpec := { name := "fnLogs", fn := fun _ => fun
  | [d] => { results := [.lit (.bool false)], args := [d] }
  | _ => none }
def FnLogsWrongFalsely : Prop := fnLogsRow.holds Try.pinned (OpenSpec.ofChange fnLogsWrong)

/-- 'laws.FnExactRecBytes': WHATEVER THE INPUT: true; the input reads as it did. -/
def fnExactRecBytesSpec : ChangeSpec := { name := "fnExactRecBytes", fn := fun _ => fun
  | [d] => { results := [.lit (.bool true)], args := [d] }
  | _ => none }
def fnExactRecBytesRow : OpenClaim := { program := "ytajahbpeiifcbaa", sum := "a11e1b8a62618c2fa8bd8c6785c8b80364230f0b829e4df37be976c3502c4ce6", func := "loop.example/g00289/laws.FnExactRecBytes", spec := "fnExactRecBytes", inPlace := ["internal/bytealg.IndexByteString", "internal/bytealg.IndexString"], unfollowed := true, recurses := true, named := ["internal/bytealg.MaxLen"], apart := false }
def FnExactRecBytesSaid : Prop := fnExactRecBytesRow.holds Try.pinned (OpenSpec.ofChange fnExactRecBytesSpec)

/-- ITS FALSE NEIGHBOUR: 'it returns false'. Refute it at one input. -/
def fnExactRecBytesWrong : ChangeSpec := { name := "fnExactRecBytes", fn := fun _ => fun
  | [d] => { results := [.lit (.bool false)], args := [d] }
  | _ => none }
def FnExactRecBytesWrongFalsely : Prop := fnExactRecBytesRow.holds Try.pinned (OpenSpec.ofChange fnExactRecBytesWrong)

/- THE SECOND FORM. 'bulk': how many values and letters a reading holds, each counted each time it is reached (what is shared counts as often as it is met; a slice's spare places count too). A statement '..UptoSaid' is the law's where the arguments, and the package variables that the reading takes, are together of bulk at most 1048576: NARROWER than '..Said'. Prove '..Said' where nothing that the law and all that it calls make is longer than what came in: it says more and counts as full. Else prove '..UptoSaid'. A law counts once. -/
mutual
def uptoBulk {H : Type} : DataW H → Nat
  | .lit (.string bytes) => bytes.length + 1
  | .lit _ => 1
  | .nil => 1
  | .ptr d => uptoBulk d + 1
  | .slice elems spare => uptoBulkAll elems + uptoBulkAll spare + 1
  | .agg parts => uptoBulkAll parts + 1
  | .iface _ d => uptoBulk d + 1
  | .map entries => uptoBulkEntries entries + 1
  | .held _ => 1
def uptoBulkAll {H : Type} : List (DataW H) → Nat
  | [] => 0
  | d :: r => uptoBulk d + uptoBulkAll r
def uptoBulkEntries {H : Type} : List (Lit × DataW H) → Nat
  | [] => 0
  | x :: r => uptoBulkEntry x + uptoBulkEntries r
def uptoBulkEntry {H : Type} : Lit × DataW H → Nat
  | (.string bytes, d) => bytes.length + uptoBulk d + 1
  | (_, d) => uptoBulk d + 1
 end
def uptoSmall : (H : Type) → List (DataW H) → Bool := fun _ ds => decide (uptoBulkAll ds ≤ 1048576)
def OpenSpec.upto (s : _root_.Go.ChangeSpec) : _root_.Go.OpenSpec := { _root_.Go.OpenSpec.ofChange s with cond := some uptoSmall }

/-- 'laws.FnExactFall', WHERE WHAT IT READS IS OF BULK AT MOST 1048576: true; the input reads as it did. -/
def fnExactFallUptoRow : OpenClaim := { program := "ytajahbpeiifcbaa", sum := "a11e1b8a62618c2fa8bd8c6785c8b80364230f0b829e4df37be976c3502c4ce6", func := "loop.example/g00289/laws.FnExactFall", spec := "fnExactFall", apart := false, narrowed := true }
def FnExactFallUptoSaid : Prop := fnExactFallUptoRow.holds Try.pinned (OpenSpec.upto fnExactFallSpec)

/-- 'laws.FnExactNewer', WHERE WHAT IT READS IS OF BULK AT MOST 1048576: true; the input reads as it did. -/
def fnExactNewerUptoRow : OpenClaim := { program := "ytajahbpeiifcbaa", sum := "a11e1b8a62618c2fa8bd8c6785c8b80364230f0b829e4df37be976c3502c4ce6", func := "loop.example/g00289/laws.FnExactNewer", spec := "fnExactNewer", apart := false, narrowed := true }
def FnExactNewerUptoSaid : Prop := fnExactNewerUptoRow.holds Try.pinned (OpenSpec.upto fnExactNewerSpec)

/-- 'laws.FnExactTermAt', WHERE WHAT IT READS IS OF BULK AT MOST 1048576: true; the input reads as it did. -/
def fnExactTermAtUptoRow : OpenClaim := { program := "ytajahbpeiifcbaa", sum := "a11e1b8a62618c2fa8bd8c6785c8b80364230f0b829e4df37be976c3502c4ce6", func := "loop.example/g00289/laws.FnExactTermAt", spec := "fnExactTermAt", apart := false, narrowed := true }
def FnExactTermAtUptoSaid : Prop := fnExactTermAtUptoRow.holds Try.pinned (OpenSpec.upto fnExactTermAtSpec)

/-- 'laws.FnBytes', WHERE WHAT IT READS IS OF BULK AT MOST 1048576: true; the input reads as it did. -/
def fnBytesUptoRow : OpenClaim := { program := "ytajahbpeiifcbaa", sum := "a11e1b8a62618c2fa8bd8c6785c8b80364230f0b829e4df37be976c3502c4ce6", func := "loop.example/g00289/laws.FnBytes", spec := "fnBytes", apart := false, narrowed := true }
def FnBytesUptoSaid : Prop := fnBytesUptoRow.holds Try.pinned (OpenSpec.upto fnBytesSpec)

/-- 'laws.FnExactFrom', WHERE WHAT IT READS IS OF BULK AT MOST 1048576: true; the input reads as it did. -/
def fnExactFromUptoRow : OpenClaim := { program := "ytajahbpeiifcbaa", sum := "a11e1b8a62618c2fa8bd8c6785c8b80364230f0b829e4df37be976c3502c4ce6", func := "loop.example/g00289/laws.FnExactFrom", spec := "fnExactFrom", apart := false, narrowed := true }
def FnExactFromUptoSaid : Prop := fnExactFromUptoRow.holds Try.pinned (OpenSpec.upto fnExactFromSpec)

/-- 'laws.FnExactLogCut', WHERE WHAT IT READS IS OF BULK AT MOST 1048576: true; the input reads as it did. -/
def fnExactLogCutUptoRow : OpenClaim := { program := "ytajahbpeiifcbaa", sum := "a11e1b8a62618c2fa8bd8c6785c8b80364230f0b829e4df37be976c3502c4ce6", func := "loop.example/g00289/laws.FnExactLogCut", spec := "fnExactLogCut", apart := false, narrowed := true }
def FnExactLogCutUptoSaid : Prop := fnExactLogCutUptoRow.holds Try.pinned (OpenSpec.upto fnExactLogCutSpec)

/-- 'laws.FnExactLogOk', WHERE WHAT IT READS IS OF BULK AT MOST 1048576: true; the input reads as it did. -/
def fnExactLogOkUptoRow : OpenClaim := { program := "ytajahbpeiifcbaa", sum := "a11e1b8a62618c2fa8bd8c6785c8b80364230f0b829e4df37be976c3502c4ce6", func := "loop.example/g00289/laws.FnExactLogOk", spec := "fnExactLogOk", inPlace := ["internal/bytealg.IndexByteString", "internal/bytealg.IndexString"], named := ["internal/bytealg.MaxLen"], apart := false, narrowed := true }
def FnExactLogOkUptoSaid : Prop := fnExactLogOkUptoRow.holds Try.pinned (OpenSpec.upto fnExactLogOkSpec)

/-- 'laws.FnExactRpcOk', WHERE WHAT IT READS IS OF BULK AT MOST 1048576: true; the input reads as it did. -/
def fnExactRpcOkUptoRow : OpenClaim := { program := "ytajahbpeiifcbaa", sum := "a11e1b8a62618c2fa8bd8c6785c8b80364230f0b829e4df37be976c3502c4ce6", func := "loop.example/g00289/laws.FnExactRpcOk", spec := "fnExactRpcOk", inPlace := ["internal/bytealg.IndexByteString", "internal/bytealg.IndexString"], unfollowed := true, recurses := true, named := ["internal/bytealg.MaxLen"], apart := false, narrowed := true }
def FnExactRpcOkUptoSaid : Prop := fnExactRpcOkUptoRow.holds Try.pinned (OpenSpec.upto fnExactRpcOkSpec)

/-- 'laws.FnExactRecOk', WHERE WHAT IT READS IS OF BULK AT MOST 1048576: true; the input reads as it did. -/
def fnExactRecOkUptoRow : OpenClaim := { program := "ytajahbpeiifcbaa", sum := "a11e1b8a62618c2fa8bd8c6785c8b80364230f0b829e4df37be976c3502c4ce6", func := "loop.example/g00289/laws.FnExactRecOk", spec := "fnExactRecOk", inPlace := ["internal/bytealg.IndexByteString", "internal/bytealg.IndexString"], unfollowed := true, recurses := true, named := ["internal/bytealg.MaxLen"], apart := false, narrowed := true }
def FnExactRecOkUptoSaid : Prop := fnExactRecOkUptoRow.holds Try.pinned (OpenSpec.upto fnExactRecOkSpec)

/-- 'laws.FnExactLogPut', WHERE WHAT IT READS IS OF BULK AT MOST 1048576: true; the input reads as it did. -/
def fnExactLogPutUptoRow : OpenClaim := { program := "ytajahbpeiifcbaa", sum := "a11e1b8a62618c2fa8bd8c6785c8b80364230f0b829e4df37be976c3502c4ce6", func := "loop.example/g00289/laws.FnExactLogPut", spec := "fnExactLogPut", inPlace := ["internal/bytealg.IndexByteString", "internal/bytealg.IndexString"], named := ["internal/bytealg.MaxLen"], apart := false, narrowed := true }
def FnExactLogPutUptoSaid : Prop := fnExactLogPutUptoRow.holds Try.pinned (OpenSpec.upto fnExactLogPutSpec)

/-- 'laws.FnLogs', WHERE WHAT IT READS IS OF BULK AT MOST 1048576: true; the input reads as it did. -/
def fnLogsUptoRow : OpenClaim := { program := "ytajahbpeiifcbaa", sum := "a11e1b8a62618c2fa8bd8c6785c8b80364230f0b829e4df37be976c3502c4ce6", func := "loop.example/g00289/laws.FnLogs", spec := "fnLogs", inPlace := ["internal/bytealg.IndexByteString", "internal/bytealg.IndexString"], named := ["internal/bytealg.MaxLen"], apart := false, narrowed := true }
def FnLogsUptoSaid : Prop := fnLogsUptoRow.holds Try.pinned (OpenSpec.upto fnLogsSpec)

/-- 'laws.FnExactRecBytes', WHERE WHAT IT READS IS OF BULK AT MOST 1048576: true; the input reads as it did. -/
def fnExactRecBytesUptoRow : OpenClaim := { program := "ytajahbpeiifcbaa", sum := "a11e1b8a62618c2fa8bd8c6785c8b80364230f0b829e4df37be976c3502c4ce6", func := "loop.example/g00289/laws.FnExactRecBytes", spec := "fnExactRecBytes", inPlace := ["internal/bytealg.IndexByteString", "internal/bytealg.IndexString"], unfollowed := true, recurses := true, named := ["internal/bytealg.MaxLen"], apart := false, narrowed := true }
def FnExactRecBytesUptoSaid : Prop := fnExactRecBytesUptoRow.holds Try.pinned (OpenSpec.upto fnExactRecBytesSpec)

end Rows
end Go.Proofs.Ytajahbpeiifcbaa
