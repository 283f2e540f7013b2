/- What must be shown of the table of M. No condition. -/
import Derived.Test.YtemajhlhgphhjaaGreatDoorTMa
namespace Go.Proofs.YtemajhlhgphhjaaGreatDoor.E.TM
open Go.Proofs.YtemajhlhgphhjaaGreatDoor.E
set_option linter.unusedVariables false
set_option maxRecDepth 100000
theorem Yx:∀ t ft,tab.ty t=some ft→dg tab.G Tryz.prog tab.ty t ft=true:=YK (l:=tyL) (by kernel_rfl)
theorem MY:oK tab Tryz.prog 146 206:=.inr (Nd (fn:=Tryz.f146) (by kernel_rfl) (by kernel_rfl) (by kernel_rfl) (by kernel_rfl) (fun x y h=>by cases h;exact⟨x.1,x.2.1,rfl,rfl⟩) Tryz.func146 (by kernel_rfl) (by kernel_rfl) (by kernel_rfl) (by kernel_rfl))
theorem MZ:oK tab Tryz.prog 284 477:=.inr (PS (fn:=Tryz.f284) (by kernel_rfl) (by kernel_rfl) (by kernel_rfl) (by kernel_rfl) (fun x y h=>by cases h;exact⟨x.1,x.2.1,rfl,rfl⟩) Tryz.func284 (by kernel_rfl) (by kernel_rfl) (by kernel_rfl) (by kernel_rfl))
theorem Yw:lx tab Tryz.prog (F8++F7):=FC ⟨MY,MZ,trivial⟩ (FD (raw:=xI) (fv:=fv) (fun _=>rfl) (fun _=>rfl) (by kernel_rfl))
theorem Ld:TabOK tab Tryz.prog:=⟨Yx,HZ (l:=HY) (by kernel_rfl),F9 Yw⟩
end Go.Proofs.YtemajhlhgphhjaaGreatDoor.E.TM
