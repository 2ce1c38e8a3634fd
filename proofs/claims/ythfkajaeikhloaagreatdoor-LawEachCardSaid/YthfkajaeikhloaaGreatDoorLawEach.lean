/- Proved: the card of the statement LawEach, as it was given, with no condition of ours: whatever the input, the function returns true and its arguments read as before. -/
import Derived.Test.YthfkajaeikhloaaGreatDoorCards
import Derived.Test.YthfkajaeikhloaaGreatDoorTie
import Derived.Test.YthfkajaeikhloaaGreatDoorLawEachD
import Derived.Test.YthfkajaeikhloaaGreatDoorLawEachE
import Derived.WalkKit
import Derived.ProofKit
import Derived.OpenShut
import Derived.LaidMore
import Derived.Lay
import Derived.LaidOnce
import Derived.SevenTiedAt
import Derived.ChangeSame
import Derived.Below
import Derived.Handed
namespace Go.Proofs.YthfkajaeikhloaaGreatDoor
open Go
theorem lawEach_card : Rows.LawEachCardSaid :=
  Claim7.holds_tied_plain_at .later [] Rows.lawEachCard.laidKinds true (true, "ff4d4563ad477594a54927f1a3c56fed84589efa9411a470d0c1957cfc496e20") true lawEach.over (fun _ h => by cases h) (by kernel_rfl) (fun _ h => by cases h) lawEach_row_tie rfl ⟨rfl, rfl⟩ (by kernel_rfl) rfl
    (fun f fn hf hfn => by
      obtain rfl : f = 5 := Option.some.inj ((show Tryz.prog.funcNamed "tithe/tithelaw21.LawEach" = some 5 by kernel_rfl).symm.trans hf) |>.symm
      obtain rfl : fn = Tryz.f5 := (Option.some.inj (Tryz.func5.symm.trans hfn)).symm
      exact ⟨by kernel_rfl, fun j t ht => by
        rw [Tryz.params5] at ht
        have hm : t ∈ [3] := by simpa using Array.mem_of_getElem? ht
        have hall : ([3].all fun u => !Tryz.prog.wantsStandIn u) = true := by kernel_rfl
        exact (show Tryz.prog.wantsStandIn t = false by simpa using List.all_eq_true.1 hall t hm)⟩)
    lawEach.gby
end Go.Proofs.YthfkajaeikhloaaGreatDoor
