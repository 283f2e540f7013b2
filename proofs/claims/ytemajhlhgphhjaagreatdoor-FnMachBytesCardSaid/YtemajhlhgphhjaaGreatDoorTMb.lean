/- What must be shown of the table of M. No condition. -/
import Derived.Test.YtemajhlhgphhjaaGreatDoorTMa
namespace Go.Proofs.YtemajhlhgphhjaaGreatDoor.E.TM
open Go.Proofs.YtemajhlhgphhjaaGreatDoor.E
set_option linter.unusedVariables false
set_option maxRecDepth 100000
theorem YQ:∀ t ft,tab.ty t=some ft→dh tab.G Tryz.prog tab.ty t ft=true:=Y3 (l:=tyL) (by kernel_rfl)
theorem Nb:oO tab Tryz.prog 146 206:=.inr (Nt (fn:=Tryz.f146) (by kernel_rfl) (by kernel_rfl) (by kernel_rfl) (by kernel_rfl) (fun x y h=>by cases h;exact⟨x.1,x.2.1,rfl,rfl⟩) Tryz.func146 (by kernel_rfl) (by kernel_rfl) (by kernel_rfl) (by kernel_rfl))
theorem Nc:oO tab Tryz.prog 284 477:=.inr (Qb (fn:=Tryz.f284) (by kernel_rfl) (by kernel_rfl) (by kernel_rfl) (by kernel_rfl) (fun x y h=>by cases h;exact⟨x.1,x.2.1,rfl,rfl⟩) Tryz.func284 (by kernel_rfl) (by kernel_rfl) (by kernel_rfl) (by kernel_rfl))
theorem YP:lz tab Tryz.prog (Gm++Gl):=FN ⟨Nb,Nc,trivial⟩ (FO (raw:=xS) (fw:=fw) (fun _=>rfl) (fun _=>rfl) (by kernel_rfl))
theorem Ls:TabOK tab Tryz.prog:=⟨YQ,Ic (l:=Ib) (by kernel_rfl),Hg (l:=He) (by kernel_rfl),Gn YP⟩
end Go.Proofs.YtemajhlhgphhjaaGreatDoor.E.TM
