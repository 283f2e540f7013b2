/- What must be shown of the table of N. No condition. -/
import Derived.Test.YtacknlgegbagfaaGreatTNa
namespace Go.Proofs.YtacknlgegbagfaaGreat.E.TN
open Go.Proofs.YtacknlgegbagfaaGreat.E
set_option linter.unusedVariables false
set_option maxRecDepth 100000
theorem LO:∀ t ft,tab.ty t=some ft→cI tab.G Tryz.prog tab.ty t ft=true:=LW (l:=tyL) (by kernel_rfl)
theorem BZ:pq tab Tryz.prog 163 335:=.inr (DK (fn:=Tryz.f163) (by kernel_rfl) (by kernel_rfl) (by kernel_rfl) (by kernel_rfl) (fun x y h=>by cases h;exact⟨x.1,x.2.1,rfl,rfl⟩) Tryz.func163 (by kernel_rfl) (by kernel_rfl) (by kernel_rfl) (by kernel_rfl))
theorem LN:iz tab Tryz.prog (wD++wC):=v8 ⟨BZ,trivial⟩ (v9 (raw:=uf) (ej:=ej) (fun _=>rfl) (fun _=>rfl) (by kernel_rfl))
theorem AE:TabOK tab Tryz.prog:=⟨LO,xV (l:=xU) (by kernel_rfl),wE LN⟩
end Go.Proofs.YtacknlgegbagfaaGreat.E.TN
