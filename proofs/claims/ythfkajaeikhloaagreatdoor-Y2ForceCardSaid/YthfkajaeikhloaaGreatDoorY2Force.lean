/- Proved: the card of the statement Y2Force, as it was given, with no condition of ours: whatever the input, the function returns true and its arguments read as before. -/
import Derived.Test.YthfkajaeikhloaaGreatDoorCards
import Derived.Test.YthfkajaeikhloaaGreatDoorTie
import Derived.Test.YthfkajaeikhloaaGreatDoorY2ForceD
import Derived.Test.YthfkajaeikhloaaGreatDoorY2ForceE
import Derived.WalkKit
import Derived.ProofKit
import Derived.OpenShut
import Derived.LaidMore
import Derived.Lay
import Derived.LaidOnce
import Derived.SevenTiedAt
import Derived.ChangeSame
import Derived.Below
import Derived.Handed
import Derived.ChangeMaps5
namespace Go.Proofs.YthfkajaeikhloaaGreatDoor
open Go
theorem y2Force_card : Rows.Y2ForceCardSaid :=
  Claim7.holds_tied_plain_at .later [] Rows.y2ForceCard.laidKinds true (true, "ff4d4563ad477594a54927f1a3c56fed84589efa9411a470d0c1957cfc496e20") true y2Force.over (fun _ h => by cases h) (by kernel_rfl) (fun _ h => by cases h) y2Force_row_tie rfl ⟨rfl, rfl⟩ (by kernel_rfl) rfl
    (fun f fn hf hfn => by
      obtain rfl : f = 4 := Option.some.inj ((show Tryz.prog.funcNamed "tithe/tithelaw18.Y2Force" = some 4 by kernel_rfl).symm.trans hf) |>.symm
      obtain rfl : fn = Tryz.f4 := (Option.some.inj (Tryz.func4.symm.trans hfn)).symm
      exact ⟨by kernel_rfl, fun j t ht => by
        rw [Tryz.params4] at ht
        have hm : t ∈ [9, 3, 3] := by simpa using Array.mem_of_getElem? ht
        have hall : ([9, 3, 3].all fun u => !Tryz.prog.wantsStandIn u) = true := by kernel_rfl
        exact (show Tryz.prog.wantsStandIn t = false by simpa using List.all_eq_true.1 hall t hm)⟩)
    y2Force.gby
end Go.Proofs.YthfkajaeikhloaaGreatDoor
