/- What is known beforehand of sync.Once's Do at this dump. -/
import Derived.Test.YthfkajaeikhloaaGreatDoorOb
import Derived.Test.YthfkajaeikhloaaGreatDoorOc
import Derived.Test.YthfkajaeikhloaaGreatDoorXgD
namespace Go.Proofs.YthfkajaeikhloaaGreatDoor
theorem onceC : Xq.OnceC Tryz.prog 150 := ⟨by kernel_rfl, do_done, do_first⟩
end Go.Proofs.YthfkajaeikhloaaGreatDoor
