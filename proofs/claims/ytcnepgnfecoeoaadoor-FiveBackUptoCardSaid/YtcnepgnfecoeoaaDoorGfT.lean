/- Facts of the program's tables, each by the kernel. No condition. -/
import Derived.Test.YtcnepgnfecoeoaaDoorCmp
import Derived.Test.YtcnepgnfecoeoaaDoorLbs
import Derived.Test.YtcnepgnfecoeoaaDoorBack
import Derived.Test.YtcnepgnfecoeoaaDoorCome
import Derived.Test.YtcnepgnfecoeoaaDoorGeT
import Derived.Test.YtcnepgnfecoeoaaDoorProg
namespace Go.Proofs.YtcnepgnfecoeoaaDoor.T
open Go Go.Proofs.GP Go.Proofs.YtcnepgnfecoeoaaDoor
theorem ent15 : EntS Tryd.prog 15 := ent_of Tryd.func15 (by kernel_rfl) rfl
theorem ent16 : EntS Tryd.prog 16 := ent_of Tryd.func16 (by kernel_rfl) rfl
theorem ent19 : EntS Tryd.prog 19 := ent_of Tryd.func19 (by kernel_rfl) rfl
end Go.Proofs.YtcnepgnfecoeoaaDoor.T
