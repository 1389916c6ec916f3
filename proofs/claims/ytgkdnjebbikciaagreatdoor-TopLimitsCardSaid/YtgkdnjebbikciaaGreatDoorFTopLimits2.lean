/-
  Closed facts of this seat, one by one (2).
-/
import Derived.WalkKit
import Derived.Deep.Quiet
import Derived.KernelRfl
import Derived.RangeFuncLeaves
import Derived.RangeFuncRecord
import Derived.Laws.Pointers
import Derived.WalkLawsBesides
import Derived.WalkSpells
import Derived.Maps.AppendAt
import Derived.Laws.Tables
import Derived.Laws.Rows
import Derived.Laws.CopyRow
import Derived.Deep.AppendLies
import Derived.MapKept
import Derived.Below
import Derived.ProofKit
import Derived.OpenShut
import Derived.ShutString
import Derived.ChangeOld
import Derived.Deep.Slices
import Derived.OrdersHeld
import Derived.StillTail
import Derived.Lib.ConvBytes
import Derived.Lib.UnsafeStr
import Derived.Lib.Builder
import Derived.Laws.BytesString
import Derived.Laws.Externs
import Derived.Laws.Strings2
import Derived.Laws.Strings3
import Derived.Laws.MakeOwn
import Derived.Laws.StructEq
import Derived.Laws.BitsLemmas
import Derived.ChangeKeysEq
import Derived.Maps.RangeRun
import Derived.SevenTiedAt
import Derived.Test.YtgkdnjebbikciaaGreatDoorChecked
import Derived.Test.YtgkdnjebbikciaaGreatDoorRows
import Derived.Test.YtgkdnjebbikciaaGreatDoorCards
namespace Go.Proofs.YtgkdnjebbikciaaGreatDoor
open Go
namespace LTopLimits
theorem cl5 : (Rows.topLimitsRow.plainKeys == Tryz.prog.plainKeys) = true := by kernel_rfl
theorem cl6 : (Tryz.prog.stopsHeard) = true := by kernel_rfl
theorem cl7 : (Tryz.prog.mayEnter) = true := by kernel_rfl
end LTopLimits
theorem topLimits_cdw : Rows.topLimitsRow.wfByText (OpenSpec.ofChange Rows.topLimitsSpec) = true := by kernel_rfl
theorem topLimits_cdm : Tryz.prog.mainIs = some (Rows.topLimitsCard.stood.harness.1, Rows.topLimitsCard.stood.harness.2.toList) := by kernel_rfl
theorem topLimits_cdf : Tryz.prog.funcNamed Rows.topLimitsRow.func = some 3 := by kernel_rfl
theorem topLimits_cdk : true = Tryz.prog.looks [] := by kernel_rfl
theorem topLimits_cda : ([5, 22].all fun u => !Tryz.prog.wantsStandIn u) = true := by kernel_rfl
end Go.Proofs.YtgkdnjebbikciaaGreatDoor
