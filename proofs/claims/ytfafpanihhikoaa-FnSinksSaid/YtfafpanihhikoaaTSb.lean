/- What must be shown of the table of S. No condition. -/
import Derived.Test.YtfafpanihhikoaaTSa
namespace Go.Proofs.Ytfafpanihhikoaa.E.TS
open Go.Proofs.Ytfafpanihhikoaa.E
set_option linter.unusedVariables false
set_option maxRecDepth 100000
theorem tab_ty : ∀ t ft, tab.ty t = some ft → tyOk tab.G Try.prog tab.ty t ft = true := ty_of_all (l := tyL) (by kernel_rfl)
theorem ent0 : EntOK tab Try.prog 0 := entOK_of Try.func11 (by kernel_rfl) (by kernel_rfl) (by kernel_rfl) (by kernel_rfl) (by kernel_rfl)
theorem call0 : CallOK tab Try.prog 11 0 := callOK_of 0 (by kernel_rfl) ent0 (by kernel_rfl) (by kernel_rfl) (by kernel_rfl)
theorem ent1 : EntOK tab Try.prog 1 := entOK_of Try.func41 (by kernel_rfl) (by kernel_rfl) (by kernel_rfl) (by kernel_rfl) (by kernel_rfl)
theorem call1 : CallOK tab Try.prog 41 1 := callOK_of 1 (by kernel_rfl) ent1 (by kernel_rfl) (by kernel_rfl) (by kernel_rfl)
theorem ent2 : EntOK tab Try.prog 2 := entOK_of Try.func42 (by kernel_rfl) (by kernel_rfl) (by kernel_rfl) (by kernel_rfl) (by kernel_rfl)
theorem call2 : CallOK tab Try.prog 42 2 := callOK_of 2 (by kernel_rfl) ent2 (by kernel_rfl) (by kernel_rfl) (by kernel_rfl)
theorem ent3 : EntOK tab Try.prog 3 := entOK_of Try.func31 (by kernel_rfl) (by kernel_rfl) (by kernel_rfl) (by kernel_rfl) (by kernel_rfl)
theorem call3 : CallOK tab Try.prog 31 3 := callOK_of 3 (by kernel_rfl) ent3 (by kernel_rfl) (by kernel_rfl) (by kernel_rfl)
theorem ent4 : EntOK tab Try.prog 4 := entOK_of Try.func30 (by kernel_rfl) (by kernel_rfl) (by kernel_rfl) (by kernel_rfl) (by kernel_rfl)
theorem call4 : CallOK tab Try.prog 30 5 := callOK_of 4 (by kernel_rfl) ent4 (by kernel_rfl) (by kernel_rfl) (by kernel_rfl)
theorem ent5 : EntOK tab Try.prog 5 := entOK_of Try.func43 (by kernel_rfl) (by kernel_rfl) (by kernel_rfl) (by kernel_rfl) (by kernel_rfl)
theorem call5 : CallOK tab Try.prog 43 7 := callOK_of 5 (by kernel_rfl) ent5 (by kernel_rfl) (by kernel_rfl) (by kernel_rfl)
theorem ent6 : EntOK tab Try.prog 6 := entOK_of Try.func20 (by kernel_rfl) (by kernel_rfl) (by kernel_rfl) (by kernel_rfl) (by kernel_rfl)
theorem call6 : CallOK tab Try.prog 20 8 := callOK_of 6 (by kernel_rfl) ent6 (by kernel_rfl) (by kernel_rfl) (by kernel_rfl)
theorem ent7 : EntOK tab Try.prog 7 := entOK_of Try.func18 (by kernel_rfl) (by kernel_rfl) (by kernel_rfl) (by kernel_rfl) (by kernel_rfl)
theorem call7 : CallOK tab Try.prog 18 9 := callOK_of 7 (by kernel_rfl) ent7 (by kernel_rfl) (by kernel_rfl) (by kernel_rfl)
theorem ent8 : EntOK tab Try.prog 8 := entOK_of Try.func63 (by kernel_rfl) (by kernel_rfl) (by kernel_rfl) (by kernel_rfl) (by kernel_rfl)
theorem call8 : CallOK tab Try.prog 63 10 := callOK_of 8 (by kernel_rfl) ent8 (by kernel_rfl) (by kernel_rfl) (by kernel_rfl)
theorem ent9 : EntOK tab Try.prog 9 := entOK_of Try.func64 (by kernel_rfl) (by kernel_rfl) (by kernel_rfl) (by kernel_rfl) (by kernel_rfl)
theorem call9 : CallOK tab Try.prog 64 12 := callOK_of 9 (by kernel_rfl) ent9 (by kernel_rfl) (by kernel_rfl) (by kernel_rfl)
theorem ent10 : EntOK tab Try.prog 10 := entOK_of Try.func65 (by kernel_rfl) (by kernel_rfl) (by kernel_rfl) (by kernel_rfl) (by kernel_rfl)
theorem call10 : CallOK tab Try.prog 65 14 := callOK_of 10 (by kernel_rfl) ent10 (by kernel_rfl) (by kernel_rfl) (by kernel_rfl)
theorem ent11 : EntOK tab Try.prog 11 := entOK_of Try.func66 (by kernel_rfl) (by kernel_rfl) (by kernel_rfl) (by kernel_rfl) (by kernel_rfl)
theorem call11 : CallOK tab Try.prog 66 15 := callOK_of 11 (by kernel_rfl) ent11 (by kernel_rfl) (by kernel_rfl) (by kernel_rfl)
theorem ent12 : EntOK tab Try.prog 12 := entOK_of Try.func58 (by kernel_rfl) (by kernel_rfl) (by kernel_rfl) (by kernel_rfl) (by kernel_rfl)
theorem call12 : CallOK tab Try.prog 58 16 := callOK_of 12 (by kernel_rfl) ent12 (by kernel_rfl) (by kernel_rfl) (by kernel_rfl)
theorem ent13 : EntOK tab Try.prog 13 := entOK_of Try.func55 (by kernel_rfl) (by kernel_rfl) (by kernel_rfl) (by kernel_rfl) (by kernel_rfl)
theorem call13 : CallOK tab Try.prog 55 17 := callOK_of 13 (by kernel_rfl) ent13 (by kernel_rfl) (by kernel_rfl) (by kernel_rfl)
theorem ent14 : EntOK tab Try.prog 14 := entOK_of Try.func56 (by kernel_rfl) (by kernel_rfl) (by kernel_rfl) (by kernel_rfl) (by kernel_rfl)
theorem call14 : CallOK tab Try.prog 56 18 := callOK_of 14 (by kernel_rfl) ent14 (by kernel_rfl) (by kernel_rfl) (by kernel_rfl)
theorem ent15 : EntOK tab Try.prog 15 := entOK_of Try.func72 (by kernel_rfl) (by kernel_rfl) (by kernel_rfl) (by kernel_rfl) (by kernel_rfl)
theorem call15 : CallOK tab Try.prog 72 19 := callOK_of 15 (by kernel_rfl) ent15 (by kernel_rfl) (by kernel_rfl) (by kernel_rfl)
theorem ent16 : EntOK tab Try.prog 16 := entOK_of Try.func77 (by kernel_rfl) (by kernel_rfl) (by kernel_rfl) (by kernel_rfl) (by kernel_rfl)
theorem call16 : CallOK tab Try.prog 77 20 := callOK_of 16 (by kernel_rfl) ent16 (by kernel_rfl) (by kernel_rfl) (by kernel_rfl)
theorem tab_calls : AllC tab Try.prog callL := ⟨call0, call1, call2, call3, call4, call5, call6, call7, call8, call9, call10, call11, call12, call13, call14, call15, call16, trivial⟩
theorem tab_ok : TabOK tab Try.prog := ⟨tab_ty, call_of_all tab_calls⟩
end Go.Proofs.Ytfafpanihhikoaa.E.TS
