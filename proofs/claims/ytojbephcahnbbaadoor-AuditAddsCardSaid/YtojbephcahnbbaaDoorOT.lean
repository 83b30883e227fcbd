/- Facts of the program's tables, each by the kernel. No condition. -/
import Derived.Test.YtojbephcahnbbaaDoorD
import Derived.Test.YtojbephcahnbbaaDoorSha2
import Derived.Test.YtojbephcahnbbaaDoorSha3
import Derived.Test.YtojbephcahnbbaaDoorGl
import Derived.Test.YtojbephcahnbbaaDoorLog
import Derived.Test.YtojbephcahnbbaaDoorEq
import Derived.Test.YtojbephcahnbbaaDoorSha4
import Derived.Test.YtojbephcahnbbaaDoorSha5
import Derived.Test.YtojbephcahnbbaaDoorDec
import Derived.Test.YtojbephcahnbbaaDoorMT
import Derived.Test.YtojbephcahnbbaaDoorProg
namespace Go.Proofs.YtojbephcahnbbaaDoor.T
open Go Go.Proofs.GP Go.Proofs.YtojbephcahnbbaaDoor
theorem ent35 : EntS Tryd.prog 35 := ent_of Tryd.func35 (by kernel_rfl) rfl
theorem ent36 : EntS Tryd.prog 36 := ent_of Tryd.func36 (by kernel_rfl) rfl
end Go.Proofs.YtojbephcahnbbaaDoor.T
