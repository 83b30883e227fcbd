/- Facts of the program's tables, each by the kernel. No condition. -/
import Derived.Test.YtcnepgnfecoeoaaDoorCmp
import Derived.Test.YtcnepgnfecoeoaaDoorLbs
import Derived.Test.YtcnepgnfecoeoaaDoorBack
import Derived.Test.YtcnepgnfecoeoaaDoorCome
import Derived.Test.YtcnepgnfecoeoaaDoorGdT
import Derived.Test.YtcnepgnfecoeoaaDoorProg
namespace Go.Proofs.YtcnepgnfecoeoaaDoor.T
open Go Go.Proofs.GP Go.Proofs.YtcnepgnfecoeoaaDoor
theorem lit12  : BsS Tryd.prog 22 5 0 ([] : List (Nat × Value)) ([]) := fun w => by kernel_rfl
end Go.Proofs.YtcnepgnfecoeoaaDoor.T
