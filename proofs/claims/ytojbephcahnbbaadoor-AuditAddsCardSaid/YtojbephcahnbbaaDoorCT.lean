/- Facts of the program's tables, each by the kernel. No condition. -/
import Derived.Test.YtojbephcahnbbaaDoorD
import Derived.Test.YtojbephcahnbbaaDoorSha2
import Derived.Test.YtojbephcahnbbaaDoorSha3
import Derived.Test.YtojbephcahnbbaaDoorBT
import Derived.Test.YtojbephcahnbbaaDoorProg
namespace Go.Proofs.YtojbephcahnbbaaDoor.T
open Go Go.Proofs.GP Go.Proofs.YtojbephcahnbbaaDoor
theorem ty4 : TyS Tryd.prog 4 false 1 := ⟨fun w => by kernel_rfl, fun w => by kernel_rfl⟩
theorem ty59 : TyS Tryd.prog 59 false 1 := ⟨fun w => by kernel_rfl, fun w => by kernel_rfl⟩
theorem ty64 : TyS Tryd.prog 64 false 1 := ⟨fun w => by kernel_rfl, fun w => by kernel_rfl⟩
theorem fld81_0 : FldS Tryd.prog 81 0 0 := fun p w => by kernel_rfl
theorem fld81_1 : FldS Tryd.prog 81 1 8 := fun p w => by kernel_rfl
theorem fld81_2 : FldS Tryd.prog 81 2 9 := fun p w => by kernel_rfl
theorem fld81_3 : FldS Tryd.prog 81 3 10 := fun p w => by kernel_rfl
theorem ent44 : EntS Tryd.prog 44 := ent_of Tryd.func44 (by kernel_rfl) rfl
theorem app5 : AppS Tryd.prog 5 1 1 := ⟨_, .int .u8 0, rfl, by kernel_rfl, by kernel_rfl, by kernel_rfl, by kernel_rfl, by decide, by decide⟩
theorem init79 (w : World) : (Instr.build 79 ([(0, .int .u32 1779033703), (1, .int .u32 3144134277), (2, .int .u32 1013904242), (3, .int .u32 2773480762), (4, .int .u32 1359893119), (5, .int .u32 2600822924), (6, .int .u32 528734635), (7, .int .u32 1541459225)] : List (Nat × Value)).toArray).run Tryd.prog w = .ok (.agg init8.cells.toArray) w := by kernel_rfl
theorem lit1 (x0 : List Value) (hx0 : x0.length = 8) (x1 : Bool) (w : World) : (Instr.build 81 ([(0, .agg x0.toArray), (3, .bool x1)] : List (Nat × Value)).toArray).run Tryd.prog w = .ok (.agg (x0 ++ ([.slice none 0 0, .int .u64 0, .bool x1] : List Value)).toArray) w := by
  match x0, hx0 with
  | x0_0 :: x0_1 :: x0_2 :: x0_3 :: x0_4 :: x0_5 :: x0_6 :: x0_7 :: [], _ => show _ = _; kernel_rfl
theorem lit2  : BsS Tryd.prog 64 5 0 ([] : List (Nat × Value)) ([]) := fun w => by kernel_rfl
end Go.Proofs.YtojbephcahnbbaaDoor.T
