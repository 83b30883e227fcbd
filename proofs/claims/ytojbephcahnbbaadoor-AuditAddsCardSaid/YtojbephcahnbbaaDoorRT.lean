/- Facts of the program's tables, each by the kernel. No condition. -/
import Derived.Test.YtojbephcahnbbaaDoorD
import Derived.Test.YtojbephcahnbbaaDoorSha2
import Derived.Test.YtojbephcahnbbaaDoorSha3
import Derived.Test.YtojbephcahnbbaaDoorGl
import Derived.Test.YtojbephcahnbbaaDoorLog
import Derived.Test.YtojbephcahnbbaaDoorEq
import Derived.Test.YtojbephcahnbbaaDoorSha4
import Derived.Test.YtojbephcahnbbaaDoorSha5
import Derived.Test.YtojbephcahnbbaaDoorDec
import Derived.Test.YtojbephcahnbbaaDoorDec2
import Derived.Test.YtojbephcahnbbaaDoorNote
import Derived.Test.YtojbephcahnbbaaDoorQT
import Derived.Test.YtojbephcahnbbaaDoorProg
namespace Go.Proofs.YtojbephcahnbbaaDoor.T
open Go Go.Proofs.GP Go.Proofs.YtojbephcahnbbaaDoor
theorem ty33 : TyS Tryd.prog 33 true 2 := ⟨fun w => by kernel_rfl, fun w => by kernel_rfl⟩
theorem fld33_0 : FldS Tryd.prog 33 0 0 := fun p w => by kernel_rfl
theorem fld33_1 : FldS Tryd.prog 33 1 1 := fun p w => by kernel_rfl
theorem ent8 : EntS Tryd.prog 8 := ent_of Tryd.func8 (by kernel_rfl) rfl
theorem ent10 : EntS Tryd.prog 10 := ent_of Tryd.func10 (by kernel_rfl) rfl
theorem ent11 : EntS Tryd.prog 11 := ent_of Tryd.func11 (by kernel_rfl) rfl
theorem ent12 : EntS Tryd.prog 12 := ent_of Tryd.func12 (by kernel_rfl) rfl
theorem ent15 : EntS Tryd.prog 15 := ent_of Tryd.func15 (by kernel_rfl) rfl
theorem zero39 : ZeroS Tryd.prog 39 (.agg [.slice none 0 0, .bool false].toArray) := fun w => by kernel_rfl
theorem lit14 (x0 : List Value) (hx0 : x0.length = 34) : BsS Tryd.prog 25 28 1 ([(0, .agg x0.toArray)] : List (Nat × Value)) (x0) := by
  match x0, hx0 with
  | x0_0 :: x0_1 :: x0_2 :: x0_3 :: x0_4 :: x0_5 :: x0_6 :: x0_7 :: x0_8 :: x0_9 :: x0_10 :: x0_11 :: x0_12 :: x0_13 :: x0_14 :: x0_15 :: x0_16 :: x0_17 :: x0_18 :: x0_19 :: x0_20 :: x0_21 :: x0_22 :: x0_23 :: x0_24 :: x0_25 :: x0_26 :: x0_27 :: x0_28 :: x0_29 :: x0_30 :: x0_31 :: x0_32 :: x0_33 :: [], _ => intro w; show _ = _; kernel_rfl
end Go.Proofs.YtojbephcahnbbaaDoor.T
