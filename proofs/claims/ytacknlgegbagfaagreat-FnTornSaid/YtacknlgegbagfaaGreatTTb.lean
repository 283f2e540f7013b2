/- What must be shown of the table of T. No condition. -/
import Derived.Test.YtacknlgegbagfaaGreatTTa
namespace Go.Proofs.YtacknlgegbagfaaGreat.E.TT
open Go.Proofs.YtacknlgegbagfaaGreat.E
set_option linter.unusedVariables false
set_option maxRecDepth 100000
theorem Mh:∀ t ft,tab.ty t=some ft→cJ tab.G Tryz.prog tab.ty t ft=true:=Mr (l:=tyL) (by kernel_rfl)
theorem Ck:px tab Tryz.prog 163 324:=.inr (Ea (fn:=Tryz.f163) (by kernel_rfl) (by kernel_rfl) (by kernel_rfl) (by kernel_rfl) (fun x y h=>by cases h;exact⟨x.1,x.2.1,rfl,rfl⟩) Tryz.func163 (by kernel_rfl) (by kernel_rfl) (by kernel_rfl) (by kernel_rfl))
theorem Mg:iA tab Tryz.prog (wS++wR):=wq ⟨Ck,trivial⟩ (wt (raw:=uw) (ek:=ek) (fun _=>rfl) (fun _=>rfl) (by kernel_rfl))
theorem AZ:TabOK tab Tryz.prog:=⟨Mh,yh (l:=yg) (by kernel_rfl),wU Mg⟩
end Go.Proofs.YtacknlgegbagfaaGreat.E.TT
