/-
  Closed facts of this seat, one by one (2).
-/
import Derived.WalkKit
import Derived.Deep.Quiet
import Derived.KernelRfl
import Derived.RangeFuncLeaves
import Derived.RangeFuncRecord
import Derived.Laws.Pointers
import Derived.WalkLawsBesides
import Derived.WalkSpells
import Derived.Maps.AppendAt
import Derived.Laws.Tables
import Derived.Laws.Rows
import Derived.Laws.CopyRow
import Derived.Deep.AppendLies
import Derived.MapKept
import Derived.Below
import Derived.ProofKit
import Derived.OpenShut
import Derived.ShutString
import Derived.ChangeOld
import Derived.Deep.Slices
import Derived.OrdersHeld
import Derived.StillTail
import Derived.Lib.ConvBytes
import Derived.Lib.UnsafeStr
import Derived.Lib.Builder
import Derived.Laws.BytesString
import Derived.Laws.Externs
import Derived.Laws.Strings2
import Derived.Laws.Strings3
import Derived.Laws.MakeOwn
import Derived.Laws.StructEq
import Derived.Laws.BitsLemmas
import Derived.ChangeKeysEq
import Derived.SevenTiedAt
import Derived.Test.YtjgeofdgdlmcoaaGreatDoorChecked
import Derived.Test.YtjgeofdgdlmcoaaGreatDoorRows
import Derived.Test.YtjgeofdgdlmcoaaGreatDoorCards
namespace Go.Proofs.YtjgeofdgdlmcoaaGreatDoor
open Go
namespace LMixLonger
theorem cl4 : (Rows.mixLongerRow.named == Tryz.prog.varsNamed 3) = true := by kernel_rfl
theorem cl5 : (Rows.mixLongerRow.plainKeys == Tryz.prog.plainKeys) = true := by kernel_rfl
theorem cl6 : (Tryz.prog.stopsHeard) = true := by kernel_rfl
theorem cl7 : (Tryz.prog.mayEnter) = true := by kernel_rfl
end LMixLonger
theorem mixLonger_cdw : Rows.mixLongerRow.wfByText (OpenSpec.ofChange Rows.mixLongerSpec) = true := by kernel_rfl
theorem mixLonger_cdm : Tryz.prog.mainIs = some (Rows.mixLongerCard.stood.harness.1, Rows.mixLongerCard.stood.harness.2.toList) := by kernel_rfl
theorem mixLonger_cdf : Tryz.prog.funcNamed Rows.mixLongerRow.func = some 3 := by kernel_rfl
theorem mixLonger_cdk : true = Tryz.prog.looks [] := by kernel_rfl
theorem mixLonger_cda : ([22, 23, 5].all fun u => !Tryz.prog.wantsStandIn u) = true := by kernel_rfl
end Go.Proofs.YtjgeofdgdlmcoaaGreatDoor
