/- Facts of the program's tables, each by the kernel. No condition. -/
import Derived.Test.YtojbephcahnbbaaDoorD
import Derived.Test.YtojbephcahnbbaaDoorSha2
import Derived.Test.YtojbephcahnbbaaDoorSha3
import Derived.Test.YtojbephcahnbbaaDoorCT
import Derived.Test.YtojbephcahnbbaaDoorProg
namespace Go.Proofs.YtojbephcahnbbaaDoor.T
open Go Go.Proofs.GP Go.Proofs.YtojbephcahnbbaaDoor
theorem ty26 : TyS Tryd.prog 26 true 32 := ⟨fun w => by kernel_rfl, fun w => by kernel_rfl⟩
theorem ty79 : TyS Tryd.prog 79 true 8 := ⟨fun w => by kernel_rfl, fun w => by kernel_rfl⟩
theorem ty81 : TyS Tryd.prog 81 true 11 := ⟨fun w => by kernel_rfl, fun w => by kernel_rfl⟩
theorem ent40 : EntS Tryd.prog 40 := ent_of Tryd.func40 (by kernel_rfl) rfl
theorem zero26 : ZeroS Tryd.prog 26 (.agg Dig.zero.cells.toArray) := fun w => by kernel_rfl
theorem zero81 : ZeroS Tryd.prog 81 (.agg [.int .u32 0, .int .u32 0, .int .u32 0, .int .u32 0, .int .u32 0, .int .u32 0, .int .u32 0, .int .u32 0, .slice none 0 0, .int .u64 0, .bool false].toArray) := fun w => by kernel_rfl
theorem lit3 (x0 : Int) : BsS Tryd.prog 64 5 1 ([(0, .int .u8 x0)] : List (Nat × Value)) ([.int .u8 x0]) := fun w => by kernel_rfl
end Go.Proofs.YtojbephcahnbbaaDoor.T
