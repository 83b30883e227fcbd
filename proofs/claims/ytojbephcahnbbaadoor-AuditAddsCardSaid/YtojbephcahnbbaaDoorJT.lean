/- Facts of the program's tables, each by the kernel. No condition. -/
import Derived.Test.YtojbephcahnbbaaDoorD
import Derived.Test.YtojbephcahnbbaaDoorSha2
import Derived.Test.YtojbephcahnbbaaDoorSha3
import Derived.Test.YtojbephcahnbbaaDoorGl
import Derived.Test.YtojbephcahnbbaaDoorLog
import Derived.Test.YtojbephcahnbbaaDoorEq
import Derived.Test.YtojbephcahnbbaaDoorIT
import Derived.Test.YtojbephcahnbbaaDoorProg
namespace Go.Proofs.YtojbephcahnbbaaDoor.T
open Go Go.Proofs.GP Go.Proofs.YtojbephcahnbbaaDoor
theorem ty25 : TyS Tryd.prog 25 false 1 := ⟨fun w => by kernel_rfl, fun w => by kernel_rfl⟩
theorem fld39_0 : FldS Tryd.prog 39 0 0 := fun p w => by kernel_rfl
theorem fld39_1 : FldS Tryd.prog 39 1 1 := fun p w => by kernel_rfl
theorem flv28_2 : FlvS Tryd.prog 28 2 2 26 := ⟨_, _, Tryd.underlying28, rfl, rfl, rfl⟩
theorem ent25 : EntS Tryd.prog 25 := ent_of Tryd.func25 (by kernel_rfl) rfl
theorem ent27 : EntS Tryd.prog 27 := ent_of Tryd.func27 (by kernel_rfl) rfl
theorem bz26 (w : World) : (Instr.build 26 ([] : List (Nat × Value)).toArray).run Tryd.prog w = .ok (.agg Dig.zero.cells.toArray) w := by kernel_rfl
theorem app28 : AppS Tryd.prog 28 34 56 := ⟨_, .agg (([.int .i64 0, .string ⟨([] : List UInt8).toArray⟩] : List Value) ++ Dig.zero.cells).toArray, rfl, by kernel_rfl, by kernel_rfl, by kernel_rfl, by kernel_rfl, by decide, by decide⟩
theorem lit7 (x0 : Bool) (w : World) : (Instr.build 39 ([(1, .bool x0)] : List (Nat × Value)).toArray).run Tryd.prog w = .ok (.agg [.slice none 0 0, .bool x0].toArray) w := by kernel_rfl
theorem lit8  : BsS Tryd.prog 25 28 0 ([] : List (Nat × Value)) ([]) := fun w => by kernel_rfl
theorem lit9 (x0 : Option Addr) (x0n x0c : Nat) (x1 : Bool) (w : World) : (Instr.build 39 ([(0, .slice x0 x0n x0c), (1, .bool x1)] : List (Nat × Value)).toArray).run Tryd.prog w = .ok (.agg [.slice x0 x0n x0c, .bool x1].toArray) w := by kernel_rfl
end Go.Proofs.YtojbephcahnbbaaDoor.T
