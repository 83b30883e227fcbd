/- Facts of the program's tables, each by the kernel. No condition. -/
import Derived.Test.YtojbephcahnbbaaDoorD
import Derived.Test.YtojbephcahnbbaaDoorSha2
import Derived.Test.YtojbephcahnbbaaDoorSha3
import Derived.Test.YtojbephcahnbbaaDoorGl
import Derived.Test.YtojbephcahnbbaaDoorLog
import Derived.Test.YtojbephcahnbbaaDoorEq
import Derived.Test.YtojbephcahnbbaaDoorJT
import Derived.Test.YtojbephcahnbbaaDoorProg
namespace Go.Proofs.YtojbephcahnbbaaDoor.T
open Go Go.Proofs.GP Go.Proofs.YtojbephcahnbbaaDoor
theorem ent26 : EntS Tryd.prog 26 := ent_of Tryd.func26 (by kernel_rfl) rfl
theorem lit10 (x0 : Int) (x1 : ByteArray) (x2 : List Value) (hx2 : x2.length = 32) : BsS Tryd.prog 25 28 1 ([(0, .agg (([.int .i64 x0, .string x1] : List Value) ++ x2).toArray)] : List (Nat × Value)) (([.int .i64 x0, .string x1] : List Value) ++ x2) := by
  match x2, hx2 with
  | x2_0 :: x2_1 :: x2_2 :: x2_3 :: x2_4 :: x2_5 :: x2_6 :: x2_7 :: x2_8 :: x2_9 :: x2_10 :: x2_11 :: x2_12 :: x2_13 :: x2_14 :: x2_15 :: x2_16 :: x2_17 :: x2_18 :: x2_19 :: x2_20 :: x2_21 :: x2_22 :: x2_23 :: x2_24 :: x2_25 :: x2_26 :: x2_27 :: x2_28 :: x2_29 :: x2_30 :: x2_31 :: [], _ => intro w; show _ = _; kernel_rfl
end Go.Proofs.YtojbephcahnbbaaDoor.T
