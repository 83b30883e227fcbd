/- Facts of the program's tables, each by the kernel. No condition. -/
import Derived.Test.YtojbephcahnbbaaDoorD
import Derived.Test.YtojbephcahnbbaaDoorSha2
import Derived.Test.YtojbephcahnbbaaDoorSha3
import Derived.Test.YtojbephcahnbbaaDoorGl
import Derived.Test.YtojbephcahnbbaaDoorLog
import Derived.Test.YtojbephcahnbbaaDoorEq
import Derived.Test.YtojbephcahnbbaaDoorSha4
import Derived.Test.YtojbephcahnbbaaDoorSha5
import Derived.Test.YtojbephcahnbbaaDoorDec
import Derived.Test.YtojbephcahnbbaaDoorDec2
import Derived.Test.YtojbephcahnbbaaDoorPT
import Derived.Test.YtojbephcahnbbaaDoorProg
namespace Go.Proofs.YtojbephcahnbbaaDoor.T
open Go Go.Proofs.GP Go.Proofs.YtojbephcahnbbaaDoor
theorem ty9 : TyS Tryd.prog 9 false 1 := ⟨fun w => by kernel_rfl, fun w => by kernel_rfl⟩
theorem fld28_1 : FldS Tryd.prog 28 1 1 := fun p w => by kernel_rfl
theorem ent7 : EntS Tryd.prog 7 := ent_of Tryd.func7 (by kernel_rfl) rfl
theorem ent9 : EntS Tryd.prog 9 := ent_of Tryd.func9 (by kernel_rfl) rfl
theorem ent13 : EntS Tryd.prog 13 := ent_of Tryd.func13 (by kernel_rfl) rfl
end Go.Proofs.YtojbephcahnbbaaDoor.T
