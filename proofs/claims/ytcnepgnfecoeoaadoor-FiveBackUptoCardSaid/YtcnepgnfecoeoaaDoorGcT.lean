/- Facts of the program's tables, each by the kernel. No condition. -/
import Derived.Test.YtcnepgnfecoeoaaDoorCmp
import Derived.Test.YtcnepgnfecoeoaaDoorLbs
import Derived.Test.YtcnepgnfecoeoaaDoorGbT
import Derived.Test.YtcnepgnfecoeoaaDoorProg
namespace Go.Proofs.YtcnepgnfecoeoaaDoor.T
open Go Go.Proofs.GP Go.Proofs.YtcnepgnfecoeoaaDoor
theorem fld25_0 : FldS Tryd.prog 25 0 0 := fun p w => by kernel_rfl
theorem fld25_1 : FldS Tryd.prog 25 1 1 := fun p w => by kernel_rfl
theorem fld25_2 : FldS Tryd.prog 25 2 2 := fun p w => by kernel_rfl
theorem fld25_3 : FldS Tryd.prog 25 3 3 := fun p w => by kernel_rfl
theorem fld29_0 : FldS Tryd.prog 29 0 0 := fun p w => by kernel_rfl
theorem fld29_1 : FldS Tryd.prog 29 1 5 := fun p w => by kernel_rfl
theorem ent65 : EntS Tryd.prog 65 := ent_of Tryd.func65 (by kernel_rfl) rfl
theorem ent66 : EntS Tryd.prog 66 := ent_of Tryd.func66 (by kernel_rfl) rfl
theorem zero25 : ZeroS Tryd.prog 25 (.agg [.int .u8 0, .int .u8 0, .int .u8 0, .int .u8 0].toArray) := fun w => by kernel_rfl
theorem app5 : AppS Tryd.prog 5 1 1 := ⟨Go.Proofs.Tryd.t5, .int .u8 0, by kernel_rfl, by kernel_rfl, by kernel_rfl, by kernel_rfl, by kernel_rfl, by decide, by decide⟩
theorem lit9 (x0 : Int) (x1 : Int) (x2 : Int) (x3 : Int) (x4 : Int) (x5 : Int) (x6 : Int) (x7 : Int) : BsS Tryd.prog 22 5 8 ([(0, .int .u8 x0), (1, .int .u8 x1), (2, .int .u8 x2), (3, .int .u8 x3), (4, .int .u8 x4), (5, .int .u8 x5), (6, .int .u8 x6), (7, .int .u8 x7)] : List (Nat × Value)) ([.int .u8 x0, .int .u8 x1, .int .u8 x2, .int .u8 x3, .int .u8 x4, .int .u8 x5, .int .u8 x6, .int .u8 x7]) := fun w => by kernel_rfl
theorem lit10 (x0 : Int) (x1 : Int) : BsS Tryd.prog 22 5 2 ([(0, .int .u8 x0), (1, .int .u8 x1)] : List (Nat × Value)) ([.int .u8 x0, .int .u8 x1]) := fun w => by kernel_rfl
end Go.Proofs.YtcnepgnfecoeoaaDoor.T
