/- Facts of the program's tables, each by the kernel. No condition. -/
import Derived.Test.YtojbephcahnbbaaDoorD
import Derived.Test.YtojbephcahnbbaaDoorSha2
import Derived.Test.YtojbephcahnbbaaDoorSha3
import Derived.Test.YtojbephcahnbbaaDoorFT
import Derived.Test.YtojbephcahnbbaaDoorProg
namespace Go.Proofs.YtojbephcahnbbaaDoor.T
open Go Go.Proofs.GP Go.Proofs.YtojbephcahnbbaaDoor
theorem ent32 : EntS Tryd.prog 32 := ent_of Tryd.func32 (by kernel_rfl) rfl
theorem lit4 (x0 : Int) (x1 : Int) (x2 : Int) (x3 : Int) : BsS Tryd.prog 64 5 4 ([(0, .int .u8 x0), (1, .int .u8 x1), (2, .int .u8 x2), (3, .int .u8 x3)] : List (Nat × Value)) ([.int .u8 x0, .int .u8 x1, .int .u8 x2, .int .u8 x3]) := fun w => by kernel_rfl
theorem lit5 (x0 : Option Addr) (x0n x0c : Nat) (x1 : Option Addr) (x1n x1c : Nat) (x2 : Option Addr) (x2n x2c : Nat) : BsS Tryd.prog 69 64 3 ([(0, .slice x0 x0n x0c), (1, .slice x1 x1n x1c), (2, .slice x2 x2n x2c)] : List (Nat × Value)) ([.slice x0 x0n x0c, .slice x1 x1n x1c, .slice x2 x2n x2c]) := fun w => by kernel_rfl
end Go.Proofs.YtojbephcahnbbaaDoor.T
