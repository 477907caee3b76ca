/- The facts of the program that the row of DeskNodes tells. -/
import Derived.Test.YthibchijlpflmaaGreatDoorCards
import Derived.Test.YthibchijlpflmaaGreatDoorTie
import Derived.ProofKit
import Derived.Deep.DeepHandedRow
import Derived.Deep.DeepWitnessRowRef
import Derived.Deep.DeepLaidRun
import Derived.Lib.LaidTab
import Derived.LaidSub
import Derived.ChangeMaps5
import Derived.Stop.LaidErr
set_option maxRecDepth 100000
namespace Go.Proofs.YthibchijlpflmaaGreatDoor
open Go.ChangeShapes Go.WideShapes Go.ChangeAt Go.RowKit
set_option maxHeartbeats 4000000 in
theorem deskNodes_closed : joinedFacts Tryz.pinned.checked.prog 3 Tryz.f3 (OpenSpec.ofChange Rows.deskNodesSpec).bare Rows.deskNodesRow = true := by
  unfold joinedFacts
  simp only [Bool.and_eq_true]
  and_intros <;> decide +kernel
end Go.Proofs.YthibchijlpflmaaGreatDoor
