/- Facts of the program's tables, each by the kernel. No condition. -/
import Derived.Test.YtcnepgnfecoeoaaDoorCmp
import Derived.Test.YtcnepgnfecoeoaaDoorLbs
import Derived.Test.YtcnepgnfecoeoaaDoorDT
import Derived.Test.YtcnepgnfecoeoaaDoorProg
namespace Go.Proofs.YtcnepgnfecoeoaaDoor.T
open Go Go.Proofs.GP Go.Proofs.YtcnepgnfecoeoaaDoor
theorem ty27 : TyS Tryd.prog 27 true 5 := ⟨fun w => by kernel_rfl, fun w => by kernel_rfl⟩
theorem ent75 : EntS Tryd.prog 75 := ent_of Tryd.func75 (by kernel_rfl) rfl
theorem ent94 : EntS Tryd.prog 94 := ent_of Tryd.func94 (by kernel_rfl) rfl
theorem zero27 : ZeroS Tryd.prog 27 (.agg [.int .u8 0, .int .u8 0, .int .u8 0, .int .u8 0, .string ⟨[].toArray⟩].toArray) := fun w => by kernel_rfl
theorem bz27 (w : World) : (Instr.build 27 ([] : List (Nat × Value)).toArray).run Tryd.prog w = .ok (.agg [.int .u8 0, .int .u8 0, .int .u8 0, .int .u8 0, .string ⟨[].toArray⟩].toArray) w := by kernel_rfl
theorem lit3 (x0 : Int) (x1 : Int) (x2 : Int) (x3 : Int) (w : World) : (Instr.build 25 ([(0, .int .u8 x0), (1, .int .u8 x1), (2, .int .u8 x2), (3, .int .u8 x3)] : List (Nat × Value)).toArray).run Tryd.prog w = .ok (.agg [.int .u8 x0, .int .u8 x1, .int .u8 x2, .int .u8 x3].toArray) w := by kernel_rfl
theorem lit4 (x0 : Int) (x1 : Int) (x2 : Int) (x3 : Int) (w : World) : (Instr.build 27 ([(0, .agg [.int .u8 x0, .int .u8 x1, .int .u8 x2, .int .u8 x3].toArray)] : List (Nat × Value)).toArray).run Tryd.prog w = .ok (.agg [.int .u8 x0, .int .u8 x1, .int .u8 x2, .int .u8 x3, .string ⟨[].toArray⟩].toArray) w := by kernel_rfl
theorem lit5 (x0 : ByteArray) (w : World) : (Instr.build 27 ([(1, .string x0)] : List (Nat × Value)).toArray).run Tryd.prog w = .ok (.agg [.int .u8 0, .int .u8 0, .int .u8 0, .int .u8 0, .string x0].toArray) w := by kernel_rfl
end Go.Proofs.YtcnepgnfecoeoaaDoor.T
