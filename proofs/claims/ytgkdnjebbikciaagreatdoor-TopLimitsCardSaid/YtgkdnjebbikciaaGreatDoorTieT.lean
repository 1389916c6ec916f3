/-
  The tie of the one row of this seat, each closed fact by itself (all at once the kernel wants more than 10 GB): the given text of that name is not imported.
-/
import Derived.Test.YtgkdnjebbikciaaGreatDoorRows
import Derived.LaidByTextLater
import Derived.SevenTiedAt
namespace Go.Proofs.YtgkdnjebbikciaaGreatDoor
open Go
def laidTies : List (String × DataW Unit) := [("unicode/utf8.acceptRanges", Rows.laid_unicode_utf8_acceptRanges), ("errors.errorType", Rows.laid_errors_errorType)]
theorem tieA1 : Tryz.prog.worded (varsWordLater true) = true := by kernel_rfl
theorem tieA2 : Tryz.prog.worded (varsWordLater !true) = false := by kernel_rfl
theorem tieA3 : Tryz.prog.worded rootWordLater = true := by kernel_rfl
theorem tieA4 : laidTies.map (fun x => Tryz.prog.kindOfLater x.1) = [LaidKind.data, .handle].map some := by kernel_rfl
theorem tieA5 : (Tryz.prog.funcNamed "gosem.cut.vars").isSome = true := by kernel_rfl
theorem tieA6 : varsNamedLaterB Tryz.prog (varsId Tryz.prog) laidTies = true := by kernel_rfl
theorem tieA7 : ∀ os tape, varsDone Tryz.prog 400 (varsId Tryz.prog) os tape = true := fun _ _ => by kernel_rfl
theorem tieA8 : ∀ os tape, (DataW.laidRun Tryz.prog (varsWorld Tryz.prog 400 (varsId Tryz.prog) os tape).memory 8 ((laidTies.filter fun x => x.2.handleName?.isNone).map (·.1))).map (·.1) = some (laidTies.filter fun x => x.2.handleName?.isNone) := fun _ _ => by kernel_rfl
theorem tieA9 : ∀ os tape, (DataW.laidRun Tryz.prog (varsWorld Tryz.prog 400 (varsId Tryz.prog) os tape).memory 8 ((laidTies.filter fun x => x.2.handleName?.isNone).map (·.1))).map (fun x => decide x.2.Nodup && laidRowsB Tryz.prog (varsWorld Tryz.prog 400 (varsId Tryz.prog) os tape).memory x.2) = some true := fun _ _ => by kernel_rfl
theorem tieA10 : ∀ os tape, (laidTies.filter fun x => x.2.handleName?.isSome).all (handleAtB Tryz.prog (varsWorld Tryz.prog 400 (varsId Tryz.prog) os tape).memory) = true := fun _ _ => by kernel_rfl
theorem tieP1 : Tryz.pinned.checked.prog.pinnedFits "unicode/utf8.first" = true := by kernel_rfl
theorem tieP2 : Tryz.pinned.checked.prog.headLifts.contains "ownunsafe" = false := by kernel_rfl
theorem tieP3 : Tryz.pinned.checked.prog.listedFits [("unicode/utf8.first", Rows.laid_unicode_utf8_first), ("unicode/utf8.acceptRanges", Rows.laid_unicode_utf8_acceptRanges), ("errors.errorType", Rows.laid_errors_errorType)] = true := by
  unfold Program.listedFits
  rw [tieP2]
  kernel_rfl
theorem tieAll : Tryz.prog.laidByTextLater laidTies [.data, .handle] true :=
  Program.laidByTextLater_by_run_h 400 8 tieA1 tieA2 tieA3 tieA4 tieA5 tieA6 tieA7 tieA8 tieA9 tieA10
theorem topLimits_row_tie : Rows.topLimitsRow.laidByTextAt .later Tryz.pinned [.pinned, .data, .handle] true :=
  OpenClaim.laidByTextAt_pinned rfl rfl tieAll rfl rfl rfl rfl (fun y hy _e => by
    simp only [Rows.topLimitsRow, List.zip_cons_cons, List.zip_nil_right, List.mem_cons, List.mem_nil_iff, or_false] at hy
    rcases hy with rfl | rfl | rfl
    · exact ⟨tieP1, by kernel_rfl⟩
    · cases _e
    · cases _e) tieP3
end Go.Proofs.YtgkdnjebbikciaaGreatDoor

