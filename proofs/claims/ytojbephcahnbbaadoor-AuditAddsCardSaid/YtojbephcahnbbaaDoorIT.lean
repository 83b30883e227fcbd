/- Facts of the program's tables, each by the kernel. No condition. -/
import Derived.Test.YtojbephcahnbbaaDoorD
import Derived.Test.YtojbephcahnbbaaDoorSha2
import Derived.Test.YtojbephcahnbbaaDoorSha3
import Derived.Test.YtojbephcahnbbaaDoorGl
import Derived.Test.YtojbephcahnbbaaDoorLog
import Derived.Test.YtojbephcahnbbaaDoorHT
import Derived.Test.YtojbephcahnbbaaDoorProg
namespace Go.Proofs.YtojbephcahnbbaaDoor.T
open Go Go.Proofs.GP Go.Proofs.YtojbephcahnbbaaDoor
theorem ty3 : TyS Tryd.prog 3 false 1 := ⟨fun w => by kernel_rfl, fun w => by kernel_rfl⟩
theorem fld28_0 : FldS Tryd.prog 28 0 0 := fun p w => by kernel_rfl
theorem fld28_2 : FldS Tryd.prog 28 2 2 := fun p w => by kernel_rfl
theorem ent14 : EntS Tryd.prog 14 := ent_of Tryd.func14 (by kernel_rfl) rfl
theorem ent20 : EntS Tryd.prog 20 := ent_of Tryd.func20 (by kernel_rfl) rfl
theorem ent30 : EntS Tryd.prog 30 := ent_of Tryd.func30 (by kernel_rfl) rfl
theorem lit6 (x0 : Int) (x1 : ByteArray) (x2 : List Value) (hx2 : x2.length = 32) (w : World) : (Instr.build 28 ([(0, .int .i64 x0), (1, .string x1), (2, .agg x2.toArray)] : List (Nat × Value)).toArray).run Tryd.prog w = .ok (.agg (([.int .i64 x0, .string x1] : List Value) ++ x2).toArray) w := by
  match x2, hx2 with
  | x2_0 :: x2_1 :: x2_2 :: x2_3 :: x2_4 :: x2_5 :: x2_6 :: x2_7 :: x2_8 :: x2_9 :: x2_10 :: x2_11 :: x2_12 :: x2_13 :: x2_14 :: x2_15 :: x2_16 :: x2_17 :: x2_18 :: x2_19 :: x2_20 :: x2_21 :: x2_22 :: x2_23 :: x2_24 :: x2_25 :: x2_26 :: x2_27 :: x2_28 :: x2_29 :: x2_30 :: x2_31 :: [], _ => show _ = _; kernel_rfl
end Go.Proofs.YtojbephcahnbbaaDoor.T
