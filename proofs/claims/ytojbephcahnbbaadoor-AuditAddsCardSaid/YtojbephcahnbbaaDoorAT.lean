/- Facts of the program's tables, each by the kernel. No condition. -/
import Derived.Test.YtojbephcahnbbaaDoorD
import Derived.Test.YtojbephcahnbbaaDoorSha2
import Derived.Test.YtojbephcahnbbaaDoorSha3
import Derived.Test.YtojbephcahnbbaaDoorProg
namespace Go.Proofs.YtojbephcahnbbaaDoor.T
open Go Go.Proofs.GP Go.Proofs.YtojbephcahnbbaaDoor
theorem ty28 : TyS Tryd.prog 28 true 34 := ⟨fun w => by kernel_rfl, fun w => by kernel_rfl⟩
theorem zero28 : ZeroS Tryd.prog 28 (.agg (([.int .i64 0, .string ⟨[].toArray⟩] : List Value) ++ Dig.zero.cells).toArray) := fun w => by kernel_rfl
theorem bz28 (w : World) : (Instr.build 28 ([] : List (Nat × Value)).toArray).run Tryd.prog w = .ok (.agg (([.int .i64 0, .string ⟨[].toArray⟩] : List Value) ++ Dig.zero.cells).toArray) w := by kernel_rfl
end Go.Proofs.YtojbephcahnbbaaDoor.T
