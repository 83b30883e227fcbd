/- Facts of the program's tables, each by the kernel. No condition. -/
import Derived.Test.YtcnepgnfecoeoaaDoorCmp
import Derived.Test.YtcnepgnfecoeoaaDoorLbs
import Derived.Test.YtcnepgnfecoeoaaDoorAT
import Derived.Test.YtcnepgnfecoeoaaDoorProg
namespace Go.Proofs.YtcnepgnfecoeoaaDoor.T
open Go Go.Proofs.GP Go.Proofs.YtcnepgnfecoeoaaDoor
theorem ty9 : TyS Tryd.prog 9 false 1 := ⟨fun w => by kernel_rfl, fun w => by kernel_rfl⟩
theorem ent106 : EntS Tryd.prog 106 := ent_of Tryd.func106 (by kernel_rfl) rfl
theorem ent107 : EntS Tryd.prog 107 := ent_of Tryd.func107 (by kernel_rfl) rfl
theorem ent108 : EntS Tryd.prog 108 := ent_of Tryd.func108 (by kernel_rfl) rfl
theorem ent109 : EntS Tryd.prog 109 := ent_of Tryd.func109 (by kernel_rfl) rfl
theorem lit0 (x0 : ByteArray) (x1 : Int) (x2t : Nat) (x2 : Value) (w : World) : (Instr.build 138 ([(0, .string x0), (1, .int .i64 x1), (2, .iface x2t x2)] : List (Nat × Value)).toArray).run Tryd.prog w = .ok (.agg [.string x0, .int .i64 x1, .iface x2t x2].toArray) w := by kernel_rfl
theorem lit1 (x0 : Int) (x1 : Int) (x2 : Int) : BsS Tryd.prog 53 3 3 ([(0, .int .i64 x0), (1, .int .i64 x1), (2, .int .i64 x2)] : List (Nat × Value)) ([.int .i64 x0, .int .i64 x1, .int .i64 x2]) := fun w => by kernel_rfl
theorem lit2 (x0 : Int) : BsS Tryd.prog 53 3 1 ([(0, .int .i64 x0)] : List (Nat × Value)) ([.int .i64 x0]) := fun w => by kernel_rfl
end Go.Proofs.YtcnepgnfecoeoaaDoor.T
