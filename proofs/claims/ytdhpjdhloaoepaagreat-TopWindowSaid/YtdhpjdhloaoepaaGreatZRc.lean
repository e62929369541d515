/- The closed facts of the statement's row. -/
import Derived.Test.YtdhpjdhloaoepaaGreatRows
import Derived.WalkKit
import Derived.ProofKit
import Derived.OpenShut
import Derived.ShutString
import Derived.ChangeOld
import Derived.Below
namespace Go.Proofs.YtdhpjdhloaoepaaGreat.topWindow
open Go.ChangeShapes Go.WideShapes Go.ChangeAt Go.RowKit
open Go.Proofs.YtdhpjdhloaoepaaGreat
theorem closed : joinedFacts Tryz.pinned.checked.prog 3 Tryz.f3 Rows.topWindowSpec Rows.topWindowRow = true := by kernel_rfl
end Go.Proofs.YtdhpjdhloaoepaaGreat.topWindow
