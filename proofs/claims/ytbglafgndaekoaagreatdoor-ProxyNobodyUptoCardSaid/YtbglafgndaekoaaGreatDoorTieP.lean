/-
  The tie of the second row of this seat, each closed fact by itself (all at once the kernel wants more than 10 GB): the given text of that name is not imported.
-/
import Derived.Test.YtbglafgndaekoaaGreatDoorRows
import Derived.LaidByTextLater
import Derived.SevenTiedAt
import Derived.LaidOnce
namespace Go.Proofs.YtbglafgndaekoaaGreatDoor
open Go
set_option maxRecDepth 100000
def laidTies : List (String × DataW Unit) := [("unicode/utf8.acceptRanges", Rows.laid_unicode_utf8_acceptRanges)]
theorem tieA1 : Tryz.prog.worded (varsWordLater true) = true := by kernel_rfl
theorem tieA2 : Tryz.prog.worded (varsWordLater !true) = false := by kernel_rfl
theorem tieA3 : Tryz.prog.worded rootWordLater = true := by kernel_rfl
theorem tieA4 : laidTies.map (fun x => Tryz.prog.kindOfLater x.1) = [LaidKind.data].map some := by kernel_rfl
theorem tieA5 : (Tryz.prog.funcNamed "gosem.cut.vars").isSome = true := by kernel_rfl
theorem tieA6 : varsNamedLaterB Tryz.prog (varsId Tryz.prog) laidTies = true := by kernel_rfl
theorem tieA7 : ∀ os tape, doorLeaves Tryz.prog 19 8 33 laidTies os tape = some (laidTies.filter fun x => x.2.handleName?.isNone, (funcsListed laidTies).map (·.2.funcsOut)) := fun _ _ => by kernel_rfl
theorem tieP1 : Tryz.pinned.checked.prog.pinnedFits "unicode/utf8.first" = true := by kernel_rfl
theorem tieP2 : Tryz.pinned.checked.prog.headLifts.contains "ownunsafe" = false := by kernel_rfl
theorem tieP3 : Tryz.pinned.checked.prog.listedFits [("unicode/utf8.acceptRanges", Rows.laid_unicode_utf8_acceptRanges), ("unicode/utf8.first", Rows.laid_unicode_utf8_first)] = true := by
  unfold Program.listedFits
  rw [tieP2]
  kernel_rfl
theorem tieAll : Tryz.prog.laidByTextLater laidTies [.data] true :=
  Program.laidByTextLater_by_one 19 8 33 tieA1 tieA2 tieA3 tieA4 tieA5 tieA6 tieA7
theorem proxyNobodyUpto_row_tie : Rows.proxyNobodyUptoRow.laidByTextAt .later Tryz.pinned [.data, .pinned] true :=
  OpenClaim.laidByTextAt_pinned rfl rfl tieAll rfl rfl rfl rfl (fun y hy _e => by
    simp only [Rows.proxyNobodyUptoRow, List.zip_cons_cons, List.zip_nil_right, List.mem_cons, List.mem_nil_iff, or_false] at hy
    rcases hy with rfl | rfl
    · cases _e
    · exact ⟨tieP1, by kernel_rfl⟩) tieP3
end Go.Proofs.YtbglafgndaekoaaGreatDoor

