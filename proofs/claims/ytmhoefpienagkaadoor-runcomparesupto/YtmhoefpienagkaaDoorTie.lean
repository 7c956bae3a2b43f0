/-
  DERIVED. GIVEN WITH THE SEED: THE PROGRAM's TIES (one call each: nine closed facts by the kernel) AND EACH ROW's TIE, after the 31st guide's Derived/Test/Toyas{Tie, Card}.lean. No idea stands in it: it is a product of the set-up. Laid BY PROGRAM, IN A SANDBOX (cutbox-door.mjs). By AI agents, Wed Nov 11 2026. No macro, syntax, notation, axiom, sorry.
-/
import Derived.Test.YtmhoefpienagkaaDoorRows
import Derived.LaidByTextLater
import Derived.SevenTiedAt
import Derived.LaidSub
import Derived.LaidOnce
namespace Go.Proofs.YtmhoefpienagkaaDoor
open Go
set_option maxRecDepth 100000
theorem seatTie1 : Tryd.prog.laidByTextLater [("scoria/word.operations", Rows.laid_scoria_word_operations), ("scoria/vm.instructions", Rows.laid_scoria_vm_instructions)] [.funcs, .funcs] true :=
  Program.laidByTextLater_by_one 43 8 65 (by kernel_rfl) (by kernel_rfl) (by kernel_rfl) (by kernel_rfl) (by kernel_rfl) (by kernel_rfl) (fun _ _ => by kernel_rfl)
theorem seatTie2 : Tryd.prog.laidByTextLater [("scoria/scoriaref02.constants", Rows.laid_scoria_scoriaref02_constants), ("scoria/hash.constants", Rows.laid_scoria_hash_constants), ("scoria/word.operations", Rows.laid_scoria_word_operations), ("scoria/vm.instructions", Rows.laid_scoria_vm_instructions)] [.data, .data, .funcs, .funcs] true :=
  Program.laidByTextLater_by_one 43 8 65 (by kernel_rfl) (by kernel_rfl) (by kernel_rfl) (by kernel_rfl) (by kernel_rfl) (by kernel_rfl) (fun _ _ => by kernel_rfl)
theorem noOwnUnsafe : Tryd.pinned.checked.prog.headLifts.contains "ownunsafe" = false := by kernel_rfl
theorem tie : Tryd.prog.laidByTextLater [("scoria/word.operations", Rows.laid_scoria_word_operations), ("scoria/vm.instructions", Rows.laid_scoria_vm_instructions)] [.funcs, .funcs] true :=
  Program.laidByTextLater.sub seatTie1 ["scoria/word.operations", "scoria/vm.instructions"] (by kernel_rfl) (by kernel_rfl)
theorem runCompares_row_tie : Rows.runComparesRow.laidByTextAt .later Tryd.pinned [.funcs, .funcs] true :=
  OpenClaim.laidByTextAt_later rfl rfl tie noOwnUnsafe
theorem runOrder_row_tie : Rows.runOrderRow.laidByTextAt .later Tryd.pinned [.funcs, .funcs] true :=
  OpenClaim.laidByTextAt_later rfl rfl tie noOwnUnsafe
theorem tie2 : Tryd.prog.laidByTextLater [("scoria/scoriaref02.constants", Rows.laid_scoria_scoriaref02_constants), ("scoria/hash.constants", Rows.laid_scoria_hash_constants), ("scoria/word.operations", Rows.laid_scoria_word_operations), ("scoria/vm.instructions", Rows.laid_scoria_vm_instructions)] [.data, .data, .funcs, .funcs] true :=
  Program.laidByTextLater.sub seatTie2 ["scoria/scoriaref02.constants", "scoria/hash.constants", "scoria/word.operations", "scoria/vm.instructions"] (by kernel_rfl) (by kernel_rfl)
theorem runDigests_row_tie : Rows.runDigestsRow.laidByTextAt .later Tryd.pinned [.data, .data, .funcs, .funcs] true :=
  OpenClaim.laidByTextAt_later rfl rfl tie2 noOwnUnsafe
theorem runComparesUpto_row_tie : Rows.runComparesUptoRow.laidByTextAt .later Tryd.pinned [.funcs, .funcs] true :=
  OpenClaim.laidByTextAt_later rfl rfl tie noOwnUnsafe
theorem runOrderUpto_row_tie : Rows.runOrderUptoRow.laidByTextAt .later Tryd.pinned [.funcs, .funcs] true :=
  OpenClaim.laidByTextAt_later rfl rfl tie noOwnUnsafe
theorem runDigestsUpto_row_tie : Rows.runDigestsUptoRow.laidByTextAt .later Tryd.pinned [.data, .data, .funcs, .funcs] true :=
  OpenClaim.laidByTextAt_later rfl rfl tie2 noOwnUnsafe
end Go.Proofs.YtmhoefpienagkaaDoor
