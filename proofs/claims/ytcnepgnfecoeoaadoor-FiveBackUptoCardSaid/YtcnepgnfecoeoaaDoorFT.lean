/- Facts of the program's tables, each by the kernel. No condition. -/
import Derived.Test.YtcnepgnfecoeoaaDoorCmp
import Derived.Test.YtcnepgnfecoeoaaDoorLbs
import Derived.Test.YtcnepgnfecoeoaaDoorET
import Derived.Test.YtcnepgnfecoeoaaDoorProg
namespace Go.Proofs.YtcnepgnfecoeoaaDoor.T
open Go Go.Proofs.GP Go.Proofs.YtcnepgnfecoeoaaDoor
theorem ty29 : TyS Tryd.prog 29 true 6 := ⟨fun w => by kernel_rfl, fun w => by kernel_rfl⟩
theorem ent59 : EntS Tryd.prog 59 := ent_of Tryd.func59 (by kernel_rfl) rfl
theorem ent62 : EntS Tryd.prog 62 := ent_of Tryd.func62 (by kernel_rfl) rfl
theorem zero29 : ZeroS Tryd.prog 29 (.agg [.int .u8 0, .int .u8 0, .int .u8 0, .int .u8 0, .string ⟨[].toArray⟩, .int .i64 0].toArray) := fun w => by kernel_rfl
theorem bz29 (w : World) : (Instr.build 29 ([] : List (Nat × Value)).toArray).run Tryd.prog w = .ok (.agg [.int .u8 0, .int .u8 0, .int .u8 0, .int .u8 0, .string ⟨[].toArray⟩, .int .i64 0].toArray) w := by kernel_rfl
theorem app3 : AppS Tryd.prog 3 1 8 := ⟨Go.Proofs.Tryd.t3, .int .i64 0, by kernel_rfl, by kernel_rfl, by kernel_rfl, by kernel_rfl, by kernel_rfl, by decide, by decide⟩
theorem lit6 (x0 : Option Addr) (x0n x0c : Nat) (w : World) : (Instr.build 99 ([(0, .slice x0 x0n x0c)] : List (Nat × Value)).toArray).run Tryd.prog w = .ok (.agg [.slice x0 x0n x0c, .int .i64 0, .nilIface].toArray) w := by kernel_rfl
theorem lit7 (x0 : Int) (x1 : Int) (x2 : Int) (x3 : Int) (x4 : ByteArray) (x5 : Int) (w : World) : (Instr.build 29 ([(0, .agg [.int .u8 x0, .int .u8 x1, .int .u8 x2, .int .u8 x3, .string x4].toArray), (1, .int .i64 x5)] : List (Nat × Value)).toArray).run Tryd.prog w = .ok (.agg [.int .u8 x0, .int .u8 x1, .int .u8 x2, .int .u8 x3, .string x4, .int .i64 x5].toArray) w := by kernel_rfl
end Go.Proofs.YtcnepgnfecoeoaaDoor.T
