/- Facts of the program's tables, each by the kernel. No condition. -/
import Derived.Test.YtcnepgnfecoeoaaDoorCmp
import Derived.Test.YtcnepgnfecoeoaaDoorLbs
import Derived.Test.YtcnepgnfecoeoaaDoorBT
import Derived.Test.YtcnepgnfecoeoaaDoorProg
namespace Go.Proofs.YtcnepgnfecoeoaaDoor.T
open Go Go.Proofs.GP Go.Proofs.YtcnepgnfecoeoaaDoor
theorem ty5 : TyS Tryd.prog 5 false 1 := ⟨fun w => by kernel_rfl, fun w => by kernel_rfl⟩
theorem ty22 : TyS Tryd.prog 22 false 1 := ⟨fun w => by kernel_rfl, fun w => by kernel_rfl⟩
theorem ty31 : TyS Tryd.prog 31 false 1 := ⟨fun w => by kernel_rfl, fun w => by kernel_rfl⟩
theorem fld99_0 : FldS Tryd.prog 99 0 0 := fun p w => by kernel_rfl
theorem fld99_1 : FldS Tryd.prog 99 1 1 := fun p w => by kernel_rfl
theorem fld99_2 : FldS Tryd.prog 99 2 2 := fun p w => by kernel_rfl
theorem ent61 : EntS Tryd.prog 61 := ent_of Tryd.func61 (by kernel_rfl) rfl
end Go.Proofs.YtcnepgnfecoeoaaDoor.T
