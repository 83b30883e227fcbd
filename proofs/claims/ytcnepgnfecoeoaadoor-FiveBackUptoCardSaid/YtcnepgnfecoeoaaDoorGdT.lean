/- Facts of the program's tables, each by the kernel. No condition. -/
import Derived.Test.YtcnepgnfecoeoaaDoorCmp
import Derived.Test.YtcnepgnfecoeoaaDoorLbs
import Derived.Test.YtcnepgnfecoeoaaDoorBack
import Derived.Test.YtcnepgnfecoeoaaDoorGcT
import Derived.Test.YtcnepgnfecoeoaaDoorProg
namespace Go.Proofs.YtcnepgnfecoeoaaDoor.T
open Go Go.Proofs.GP Go.Proofs.YtcnepgnfecoeoaaDoor
theorem ent13 : EntS Tryd.prog 13 := ent_of Tryd.func13 (by kernel_rfl) rfl
theorem ent14 : EntS Tryd.prog 14 := ent_of Tryd.func14 (by kernel_rfl) rfl
theorem ent17 : EntS Tryd.prog 17 := ent_of Tryd.func17 (by kernel_rfl) rfl
theorem ent18 : EntS Tryd.prog 18 := ent_of Tryd.func18 (by kernel_rfl) rfl
theorem ent20 : EntS Tryd.prog 20 := ent_of Tryd.func20 (by kernel_rfl) rfl
theorem ent27 : EntS Tryd.prog 27 := ent_of Tryd.func27 (by kernel_rfl) rfl
theorem lit11 (x0 : Int) (x1 : Int) (x2 : Int) (x3 : Int) : BsS Tryd.prog 22 5 4 ([(0, .int .u8 x0), (1, .int .u8 x1), (2, .int .u8 x2), (3, .int .u8 x3)] : List (Nat × Value)) ([.int .u8 x0, .int .u8 x1, .int .u8 x2, .int .u8 x3]) := fun w => by kernel_rfl
end Go.Proofs.YtcnepgnfecoeoaaDoor.T
