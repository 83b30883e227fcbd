/- Facts of the program's tables, each by the kernel. No condition. -/
import Derived.Test.YtcnepgnfecoeoaaDoorCmp
import Derived.Test.YtcnepgnfecoeoaaDoorLbs
import Derived.Test.YtcnepgnfecoeoaaDoorCT
import Derived.Test.YtcnepgnfecoeoaaDoorProg
namespace Go.Proofs.YtcnepgnfecoeoaaDoor.T
open Go Go.Proofs.GP Go.Proofs.YtcnepgnfecoeoaaDoor
theorem ent60 : EntS Tryd.prog 60 := ent_of Tryd.func60 (by kernel_rfl) rfl
theorem ent63 : EntS Tryd.prog 63 := ent_of Tryd.func63 (by kernel_rfl) rfl
end Go.Proofs.YtcnepgnfecoeoaaDoor.T
