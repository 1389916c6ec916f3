/-
  Closed facts of this seat, one by one (2).
-/
import Derived.WalkKit
import Derived.Deep.Quiet
import Derived.KernelRfl
import Derived.RangeFuncLeaves
import Derived.RangeFuncRecord
import Derived.Laws.Pointers
import Derived.WalkLawsBesides
import Derived.WalkSpells
import Derived.Maps.AppendAt
import Derived.Laws.Tables
import Derived.Laws.Rows
import Derived.Laws.CopyRow
import Derived.Deep.AppendLies
import Derived.MapKept
import Derived.Below
import Derived.ProofKit
import Derived.OpenShut
import Derived.ShutString
import Derived.ChangeOld
import Derived.Deep.Slices
import Derived.OrdersHeld
import Derived.StillTail
import Derived.Lib.ConvBytes
import Derived.Lib.UnsafeStr
import Derived.Lib.Builder
import Derived.Laws.BytesString
import Derived.Laws.Externs
import Derived.Laws.Strings2
import Derived.Laws.Strings3
import Derived.Laws.MakeOwn
import Derived.Laws.StructEq
import Derived.Laws.BitsLemmas
import Derived.ChangeKeysEq
import Derived.Maps.RangeRun
import Derived.SevenTiedAt
import Derived.Test.YtbglafgndaekoaaGreatDoorChecked
import Derived.Test.YtbglafgndaekoaaGreatDoorRows
import Derived.Test.YtbglafgndaekoaaGreatDoorCards
namespace Go.Proofs.YtbglafgndaekoaaGreatDoor
open Go
namespace LProxyNobody
theorem cl4 : (Rows.proxyNobodyUptoRow.named == Tryz.prog.varsNamed 3) = true := by kernel_rfl
theorem cl5 : (Rows.proxyNobodyUptoRow.plainKeys == Tryz.prog.plainKeys) = true := by kernel_rfl
theorem cl6 : (Tryz.prog.stopsHeard) = true := by kernel_rfl
theorem cl7 : (Tryz.prog.mayEnter) = true := by kernel_rfl
end LProxyNobody
theorem proxyNobodyUpto_cdw : Rows.proxyNobodyUptoRow.wfByText (Rows.OpenSpec.upto Rows.proxyNobodySpec) = true := by kernel_rfl
theorem proxyNobodyUpto_cdm : Tryz.prog.mainIs = some (Rows.proxyNobodyUptoCard.stood.harness.1, Rows.proxyNobodyUptoCard.stood.harness.2.toList) := by kernel_rfl
theorem proxyNobodyUpto_cdf : Tryz.prog.funcNamed Rows.proxyNobodyUptoRow.func = some 3 := by kernel_rfl
theorem proxyNobodyUpto_cdk : false = Tryz.prog.looks [] := by kernel_rfl
theorem proxyNobodyUpto_cda : ([30].all fun u => !Tryz.prog.wantsStandIn u) = true := by kernel_rfl
end Go.Proofs.YtbglafgndaekoaaGreatDoor
