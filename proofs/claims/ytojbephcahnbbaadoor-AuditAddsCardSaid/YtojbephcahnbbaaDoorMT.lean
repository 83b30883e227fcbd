/- Facts of the program's tables, each by the kernel. No condition. -/
import Derived.Test.YtojbephcahnbbaaDoorD
import Derived.Test.YtojbephcahnbbaaDoorSha2
import Derived.Test.YtojbephcahnbbaaDoorSha3
import Derived.Test.YtojbephcahnbbaaDoorGl
import Derived.Test.YtojbephcahnbbaaDoorLog
import Derived.Test.YtojbephcahnbbaaDoorEq
import Derived.Test.YtojbephcahnbbaaDoorSha4
import Derived.Test.YtojbephcahnbbaaDoorSha5
import Derived.Test.YtojbephcahnbbaaDoorLT
import Derived.Test.YtojbephcahnbbaaDoorProg
namespace Go.Proofs.YtojbephcahnbbaaDoor.T
open Go Go.Proofs.GP Go.Proofs.YtojbephcahnbbaaDoor
theorem ent42 : EntS Tryd.prog 42 := ent_of Tryd.func42 (by kernel_rfl) rfl
theorem init75 : BsS Tryd.prog 75 74 8 ([(0, .int .u32 1779033703), (1, .int .u32 3144134277), (2, .int .u32 1013904242), (3, .int .u32 2773480762), (4, .int .u32 1359893119), (5, .int .u32 2600822924), (6, .int .u32 528734635), (7, .int .u32 1541459225)] : List (Nat × Value)) init8.cells := fun w => by kernel_rfl
end Go.Proofs.YtojbephcahnbbaaDoor.T
