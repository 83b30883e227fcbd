/- Facts of the program's tables, each by the kernel. No condition. -/
import Derived.Test.YtcnepgnfecoeoaaDoorCmp
import Derived.Test.YtcnepgnfecoeoaaDoorLbs
import Derived.Test.YtcnepgnfecoeoaaDoorFT
import Derived.Test.YtcnepgnfecoeoaaDoorProg
namespace Go.Proofs.YtcnepgnfecoeoaaDoor.T
open Go Go.Proofs.GP Go.Proofs.YtcnepgnfecoeoaaDoor
theorem ty39 : TyS Tryd.prog 39 false 1 := ⟨fun w => by kernel_rfl, fun w => by kernel_rfl⟩
theorem ty41 : TyS Tryd.prog 41 true 10 := ⟨fun w => by kernel_rfl, fun w => by kernel_rfl⟩
theorem fld41_0 : FldS Tryd.prog 41 0 0 := fun p w => by kernel_rfl
theorem fld41_1 : FldS Tryd.prog 41 1 1 := fun p w => by kernel_rfl
theorem fld41_2 : FldS Tryd.prog 41 2 5 := fun p w => by kernel_rfl
theorem fld41_3 : FldS Tryd.prog 41 3 9 := fun p w => by kernel_rfl
theorem fld138_0 : FldS Tryd.prog 138 0 0 := fun p w => by kernel_rfl
theorem fld138_1 : FldS Tryd.prog 138 1 1 := fun p w => by kernel_rfl
theorem fld138_2 : FldS Tryd.prog 138 2 2 := fun p w => by kernel_rfl
theorem zero41 : ZeroS Tryd.prog 41 (.agg [.int .i64 0, .string ⟨[].toArray⟩, .string ⟨[].toArray⟩, .string ⟨[].toArray⟩, .string ⟨[].toArray⟩, .int .i64 0, .int .i64 0, .int .i64 0, .int .i64 0, .int .i64 0].toArray) := fun w => by kernel_rfl
theorem bz41 (w : World) : (Instr.build 41 ([] : List (Nat × Value)).toArray).run Tryd.prog w = .ok (.agg [.int .i64 0, .string ⟨[].toArray⟩, .string ⟨[].toArray⟩, .string ⟨[].toArray⟩, .string ⟨[].toArray⟩, .int .i64 0, .int .i64 0, .int .i64 0, .int .i64 0, .int .i64 0].toArray) w := by kernel_rfl
theorem as136_39 : AsS Tryd.prog 31 39 136 false (.int .i64 0) := fun v w => by kernel_rfl
theorem as136_136 : AsS Tryd.prog 31 136 136 true (.pointer none) := fun v w => by kernel_rfl
theorem as39_39 : AsS Tryd.prog 31 39 39 true (.int .i64 0) := fun v w => by kernel_rfl
end Go.Proofs.YtcnepgnfecoeoaaDoor.T
