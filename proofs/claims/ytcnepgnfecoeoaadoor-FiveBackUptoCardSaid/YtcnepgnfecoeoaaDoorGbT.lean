/- Facts of the program's tables, each by the kernel. No condition. -/
import Derived.Test.YtcnepgnfecoeoaaDoorCmp
import Derived.Test.YtcnepgnfecoeoaaDoorLbs
import Derived.Test.YtcnepgnfecoeoaaDoorGaT
import Derived.Test.YtcnepgnfecoeoaaDoorProg
namespace Go.Proofs.YtcnepgnfecoeoaaDoor.T
open Go Go.Proofs.GP Go.Proofs.YtcnepgnfecoeoaaDoor
theorem ty25 : TyS Tryd.prog 25 true 4 := ⟨fun w => by kernel_rfl, fun w => by kernel_rfl⟩
theorem fld27_0 : FldS Tryd.prog 27 0 0 := fun p w => by kernel_rfl
theorem fld27_1 : FldS Tryd.prog 27 1 4 := fun p w => by kernel_rfl
theorem ent64 : EntS Tryd.prog 64 := ent_of Tryd.func64 (by kernel_rfl) rfl
theorem bz25 (w : World) : (Instr.build 25 ([] : List (Nat × Value)).toArray).run Tryd.prog w = .ok (.agg [.int .u8 0, .int .u8 0, .int .u8 0, .int .u8 0].toArray) w := by kernel_rfl
theorem lit8 (x0 : Int) (x1 : Int) (w : World) : (Instr.build 41 ([(0, .int .i64 x0), (3, .int .i64 x1)] : List (Nat × Value)).toArray).run Tryd.prog w = .ok (.agg [.int .i64 x0, .string ⟨[].toArray⟩, .string ⟨[].toArray⟩, .string ⟨[].toArray⟩, .string ⟨[].toArray⟩, .int .i64 0, .int .i64 0, .int .i64 0, .int .i64 0, .int .i64 x1].toArray) w := by kernel_rfl
end Go.Proofs.YtcnepgnfecoeoaaDoor.T
