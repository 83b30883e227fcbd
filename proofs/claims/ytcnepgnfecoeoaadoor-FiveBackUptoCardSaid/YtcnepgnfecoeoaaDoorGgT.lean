/- Facts of the program's tables, each by the kernel. No condition. -/
import Derived.Test.YtcnepgnfecoeoaaDoorCmp
import Derived.Test.YtcnepgnfecoeoaaDoorLbs
import Derived.Test.YtcnepgnfecoeoaaDoorBack
import Derived.Test.YtcnepgnfecoeoaaDoorCome
import Derived.Test.YtcnepgnfecoeoaaDoorBack2
import Derived.Test.YtcnepgnfecoeoaaDoorNif
import Derived.Test.YtcnepgnfecoeoaaDoorGfT
import Derived.Test.YtcnepgnfecoeoaaDoorProg
namespace Go.Proofs.YtcnepgnfecoeoaaDoor.T
open Go Go.Proofs.GP Go.Proofs.YtcnepgnfecoeoaaDoor
theorem ent29 : EntS Tryd.prog 29 := ent_of Tryd.func29 (by kernel_rfl) rfl
theorem ent30 : EntS Tryd.prog 30 := ent_of Tryd.func30 (by kernel_rfl) rfl
theorem ent39 : EntS Tryd.prog 39 := ent_of Tryd.func39 (by kernel_rfl) rfl
theorem ent41 : EntS Tryd.prog 41 := ent_of Tryd.func41 (by kernel_rfl) rfl
theorem ent83 : EntS Tryd.prog 83 := ent_of Tryd.func83 (by kernel_rfl) rfl
theorem ent92 : EntS Tryd.prog 92 := ent_of Tryd.func92 (by kernel_rfl) rfl
theorem lit13 (x0 : Int) : BsS Tryd.prog 22 5 1 ([(0, .int .u8 x0)] : List (Nat × Value)) ([.int .u8 x0]) := fun w => by kernel_rfl
end Go.Proofs.YtcnepgnfecoeoaaDoor.T
