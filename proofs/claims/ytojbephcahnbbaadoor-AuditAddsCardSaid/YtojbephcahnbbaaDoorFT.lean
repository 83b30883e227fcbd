/- Facts of the program's tables, each by the kernel. No condition. -/
import Derived.Test.YtojbephcahnbbaaDoorD
import Derived.Test.YtojbephcahnbbaaDoorSha2
import Derived.Test.YtojbephcahnbbaaDoorSha3
import Derived.Test.YtojbephcahnbbaaDoorET
import Derived.Test.YtojbephcahnbbaaDoorProg
namespace Go.Proofs.YtojbephcahnbbaaDoor.T
open Go Go.Proofs.GP Go.Proofs.YtojbephcahnbbaaDoor
theorem ent39 : EntS Tryd.prog 39 := ent_of Tryd.func39 (by kernel_rfl) rfl
theorem ent41 : EntS Tryd.prog 41 := ent_of Tryd.func41 (by kernel_rfl) rfl
end Go.Proofs.YtojbephcahnbbaaDoor.T
