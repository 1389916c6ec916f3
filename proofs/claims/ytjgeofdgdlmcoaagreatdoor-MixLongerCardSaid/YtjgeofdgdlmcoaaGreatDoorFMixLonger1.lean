/-
  Closed facts of this seat, one by one (1).
-/
import Derived.WalkKit
import Derived.Deep.Quiet
import Derived.KernelRfl
import Derived.RangeFuncLeaves
import Derived.RangeFuncRecord
import Derived.Laws.Pointers
import Derived.WalkLawsBesides
import Derived.WalkSpells
import Derived.Maps.AppendAt
import Derived.Laws.Tables
import Derived.Laws.Rows
import Derived.Laws.CopyRow
import Derived.Deep.AppendLies
import Derived.MapKept
import Derived.Below
import Derived.ProofKit
import Derived.OpenShut
import Derived.ShutString
import Derived.ChangeOld
import Derived.Deep.Slices
import Derived.OrdersHeld
import Derived.StillTail
import Derived.Lib.ConvBytes
import Derived.Lib.UnsafeStr
import Derived.Lib.Builder
import Derived.Laws.BytesString
import Derived.Laws.Externs
import Derived.Laws.Strings2
import Derived.Laws.Strings3
import Derived.Laws.MakeOwn
import Derived.Laws.StructEq
import Derived.Laws.BitsLemmas
import Derived.ChangeKeysEq
import Derived.SevenTiedAt
import Derived.Test.YtjgeofdgdlmcoaaGreatDoorChecked
import Derived.Test.YtjgeofdgdlmcoaaGreatDoorRows
import Derived.Test.YtjgeofdgdlmcoaaGreatDoorCards
namespace Go.Proofs.YtjgeofdgdlmcoaaGreatDoor
open Go
namespace LMixLonger
theorem own : ownKnob Tryz.prog.godebug = none := by kernel_rfl
theorem lo0 : ((List.range 64).all fun i => rowFine Tryz.prog (0 + i)) = true := by kernel_rfl
theorem lo1 : ((List.range 64).all fun i => rowFine Tryz.prog (64 + i)) = true := by kernel_rfl
theorem lo2 : ((List.range 64).all fun i => rowFine Tryz.prog (128 + i)) = true := by kernel_rfl
theorem lo3 : ((List.range 64).all fun i => rowFine Tryz.prog (192 + i)) = true := by kernel_rfl
theorem lo4 : ((List.range 64).all fun i => rowFine Tryz.prog (256 + i)) = true := by kernel_rfl
theorem lo5 : ((List.range 69).all fun i => rowFine Tryz.prog (320 + i)) = true := by kernel_rfl
theorem loN : Tryz.prog.types.size = 389 := by kernel_rfl
theorem loG : (Tryz.prog.globals.all fun g => decide (g.type < Tryz.prog.types.size)) = true := by kernel_rfl
theorem loF : (Tryz.prog.funcs.all fun f => f.params.all fun t => decide (t < Tryz.prog.types.size)) = true := by kernel_rfl
theorem loAt {p : Nat → Bool} {a n : Nat} (h : ((List.range n).all fun i => p (a + i)) = true) {x : Nat} (h1 : a ≤ x) (h2 : x < a + n) : p x = true := by
  have := List.all_eq_true.1 h (x - a) (List.mem_range.2 (by omega))
  rwa [show a + (x - a) = x by omega] at this
theorem laidOut : laidOutB Tryz.prog = true := by
  unfold laidOutB
  rw [Bool.and_eq_true, Bool.and_eq_true]
  refine ⟨⟨List.all_eq_true.2 fun x hx => ?_, loG⟩, loF⟩
  have hx := List.mem_range.1 hx
  rw [loN] at hx
  by_cases h0 : x < 64
  · exact loAt lo0 (by omega) (by omega)
  by_cases h1 : x < 128
  · exact loAt lo1 (by omega) (by omega)
  by_cases h2 : x < 192
  · exact loAt lo2 (by omega) (by omega)
  by_cases h3 : x < 256
  · exact loAt lo3 (by omega) (by omega)
  by_cases h4 : x < 320
  · exact loAt lo4 (by omega) (by omega)
  exact loAt lo5 (by omega) (by omega)
theorem rr0 : Tryz.prog.readableRec 22 = true := by kernel_rfl
theorem ty0 : 22 < Tryz.prog.types.size := of_decide_eq_true (by kernel_rfl)
theorem rr1 : Tryz.prog.readableRec 23 = true := by kernel_rfl
theorem ty1 : 23 < Tryz.prog.types.size := of_decide_eq_true (by kernel_rfl)
theorem rr2 : Tryz.prog.readableRec 5 = true := by kernel_rfl
theorem ty2 : 5 < Tryz.prog.types.size := of_decide_eq_true (by kernel_rfl)
theorem wi0 : Tryz.prog.inits.idxOf? 3 = none := by kernel_rfl
theorem cl0 : (laidOutB Tryz.prog) = true := laidOut
theorem cl1 : (Rows.mixLongerRow.inPlace == Tryz.prog.inPlace 3) = true := by kernel_rfl
theorem cl2 : (Rows.mixLongerRow.unfollowed == Tryz.prog.unfollowed 3) = true := by kernel_rfl
theorem cl3 : (Rows.mixLongerRow.recurses == Tryz.prog.recurses 3) = true := by kernel_rfl
end LMixLonger
end Go.Proofs.YtjgeofdgdlmcoaaGreatDoor
