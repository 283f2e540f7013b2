/- What must be shown of the table of H. No condition. -/
import Derived.Test.YtcngnpahpbaagaaGreatDoorTHa
namespace Go.Proofs.YtcngnpahpbaagaaGreatDoor.E.TH
open Go.Proofs.YtcngnpahpbaagaaGreatDoor.E
set_option linter.unusedVariables false
set_option maxRecDepth 100000
theorem tab_ty:∀ t ft,tab.ty t=some ft→tyOk tab.G Tryz.prog tab.ty t ft=true:=ty_of_all (l:=tyL) (by kernel_rfl)
theorem call262:CallOK tab Tryz.prog 344 371:=.inr (cmpStr_ok (fn:=Tryz.f344) (by kernel_rfl) (by kernel_rfl) (by kernel_rfl) (by kernel_rfl) (fun x y h=>by cases h; exact ⟨x.1,x.2.1,rfl,rfl⟩) Tryz.func344 (by kernel_rfl) (by kernel_rfl) (by kernel_rfl) (by kernel_rfl))
theorem call285:CallOK tab Tryz.prog 345 412:=.inr (indexByte_ok (fn:=Tryz.f345) (by kernel_rfl) (by kernel_rfl) (by kernel_rfl) (by kernel_rfl) (fun x y h=>by cases h; exact ⟨x.1,x.2.1,rfl,rfl⟩) Tryz.func345 (by kernel_rfl) (by kernel_rfl) (by kernel_rfl) (by kernel_rfl))
theorem tab_calls:AllC tab Tryz.prog (callX ++ callR):=allC_app ⟨call262,call285,trivial⟩ (allC_fill (raw:=rent) (rkey:=rkey) (fun _=>rfl) (fun _=>rfl) (by kernel_rfl))
theorem tab_ok:TabOK tab Tryz.prog:=⟨tab_ty,ifc_of_all (l:=ifcL) (by kernel_rfl),call_of_all tab_calls⟩
end Go.Proofs.YtcngnpahpbaagaaGreatDoor.E.TH
