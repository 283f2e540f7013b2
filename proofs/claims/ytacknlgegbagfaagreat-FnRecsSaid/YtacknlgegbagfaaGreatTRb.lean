/- What must be shown of the table of R. No condition. -/
import Derived.Test.YtacknlgegbagfaaGreatTRa
namespace Go.Proofs.YtacknlgegbagfaaGreat.E.TR
open Go.Proofs.YtacknlgegbagfaaGreat.E
set_option linter.unusedVariables false
set_option maxRecDepth 100000
theorem MK:∀ t ft,tab.ty t=some ft→cL tab.G Tryz.prog tab.ty t ft=true:=MT (l:=tyL) (by kernel_rfl)
theorem CR:pW tab Tryz.prog 163 313:=.inr (EC (fn:=Tryz.f163) (by kernel_rfl) (by kernel_rfl) (by kernel_rfl) (by kernel_rfl) (fun x y h=>by cases h;exact⟨x.1,x.2.1,rfl,rfl⟩) Tryz.func163 (by kernel_rfl) (by kernel_rfl) (by kernel_rfl) (by kernel_rfl))
theorem MJ:iT tab Tryz.prog (xu++xt):=wQ ⟨CR,trivial⟩ (wR (raw:=uT) (er:=er) (fun _=>rfl) (fun _=>rfl) (by kernel_rfl))
theorem Bz:TabOK tab Tryz.prog:=⟨MK,yI (l:=yH) (by kernel_rfl),xv MJ⟩
end Go.Proofs.YtacknlgegbagfaaGreat.E.TR
