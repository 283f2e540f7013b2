/- What must be shown of the table of D. No condition. -/
import Derived.Test.YtmcjclfgedjgaaaGreatTDa
namespace Go.Proofs.YtmcjclfgedjgaaaGreat.E.TD
open Go.Proofs.YtmcjclfgedjgaaaGreat.E
set_option linter.unusedVariables false
set_option maxRecDepth 100000
theorem JI:∀ t ft,tab.ty t=some ft→cF tab.G Tryz.prog tab.ty t ft=true:=JQ (l:=tyL) (by kernel_rfl)
theorem JH:gV tab Tryz.prog (vi++vh):=uK trivial (uL (raw:=sM) (dT:=dT) (fun _=>rfl) (fun _=>rfl) (by kernel_rfl))
theorem yX:TabOK tab Tryz.prog:=⟨JI,wu (l:=wt) (by kernel_rfl),vj JH⟩
end Go.Proofs.YtmcjclfgedjgaaaGreat.E.TD
