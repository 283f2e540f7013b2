/- The pure statement of FnExactRpcOk. No condition. -/
import Derived.Test.YtajahbpeiifcbaaPBRpcRec
import Derived.Test.YtajahbpeiifcbaaPBRpcOk
import Derived.Test.YtajahbpeiifcbaaTBe1
import Derived.Test.YtajahbpeiifcbaaQFnExactRpcOk
namespace Go.Proofs.Ytajahbpeiifcbaa.E.TB
open Go.Proofs.Ytajahbpeiifcbaa.E
set_option linter.unusedVariables false
theorem pureFnExactRpcOk : PureFnExactRpcOk := by
  intro r n hr hn
  rw [l_FnExactRpcOk_eq]
  obtain ⟨q, e1, h | ⟨h, e2, e3, e4⟩⟩ := law_rpc r hr
  · rw [e1, Option.bind_some, if_pos (decide_eq_true h)]
  · obtain ⟨y, h1, h2⟩ := rpcOk_same (cRpc r) n (by omega) (lines_map (fine_Rpc hr).2.1)
    simp only [e1, e2, e4, h1, h2, Option.bind_some]
    simp [h]
end Go.Proofs.Ytajahbpeiifcbaa.E.TB
