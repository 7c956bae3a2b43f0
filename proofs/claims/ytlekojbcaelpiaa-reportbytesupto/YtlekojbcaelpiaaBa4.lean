/- Contracts of the functions that the laws of scorialaw38 reach, part 4. -/
import Derived.Test.YtlekojbcaelpiaaBa3
import Derived.Test.YtlekojbcaelpiaaBs
set_option linter.unusedVariables false
set_option linter.unusedSimpArgs false

/- scoriaref38.Spoilt: the ways that the interpreter runs. -/
namespace Go.Proofs.Ytlekojbcaelpiaa
open Go.RowKit
/-- one more event -/
def evOf (b : Int) : Ev := ⟨aroundZ b 6 - 1, aroundZ (b.tdiv 6) 5 - 1, aroundZ (b.tdiv 30) 20 - 10⟩
/-- scoriaref38.Spoilt -/
def spoiltM (r : Rp) (c : Int) (b : Int) : Rp :=
  if c = 0 then { r with id := ([0, 1, 1048576, 1048577, b] : List Int)[(aroundZ b 5).toNat]?.getD 0 }
  else if c = 1 then { r with ver := aroundZ b 40 - 4 }
  else if c = 2 then { r with args := r.args ++ [aroundZ b 20 - 10] }
  else if c = 3 then { r with cut := !r.cut }
  else if c = 4 then { r with en := aroundZ b 40 - 4 }
  else if c = 5 then { r with events := r.events ++ [evOf b] }
  else if c = 6 then { r with events := r.events ++ List.replicate (250 + aroundZ b 9).toNat ⟨0, 0, 0⟩ }
  else match r.events[(aroundZ b r.events.length).toNat]? with
    | some e => { r with events := r.events.set (aroundZ b r.events.length).toNat { e with n := aroundZ (b.tdiv 7) 20 - 10 } }
    | none => r
def spoiltR (r : Rp) (how b : Int) : Rp := spoiltM r (aroundZ how 8) b
section
variable (id ver en how b : Int) (args : List Int) (es : List Ev) (cut : Bool)
theorem ok_near (h : I64 b) : I64 (aroundZ b 40 - 4) := by have := aroundZ_bd b 40 (by omega) (by omega); exact ⟨by omega, by omega⟩

theorem spo0_0 (hh : I64 how) (hb : I64 b) (hla : args.length ≤ 1000000) (hle : es.length ≤ 1000000) (hc : aroundZ how 8 = 0) (hk : aroundZ b 5 = 0) : Ok Try.prog 9 [.agg [iA id, iA ver, rowI args, rowE es, bA cut, iA en], iA how, iA b] (plainR (.agg [iA 0, iA ver, .row none 1 (0 + args.length) (args.map iA), .row none 3 (0 + es.length) (evA es), bA cut, iA en])) := by
  exact Ok.run' 9 (orcC [(20, plainR (iA (aroundZ b 40))), (23, plainR (iA 0)), (46, plainR (iA 0))] [(12, .grow 9 3 1 0 [] args.length (args.map iA)), (17, .grow 14 71 3 0 [] es.length (evA es)), (21, .val (iA (aroundZ b 40 - 4)))]) Try.func9 [Ok Try.prog 19 [iA b, iA 5] (plainR (iA 0)), Ok Try.prog 19 [iA how, iA 8] (plainR (iA 0)), pB .sub 3 (.tmp 20) (.const (.int .i64 4)) (.int .i64 (aroundZ b 40)) (.int .i64 (4)) (iA (aroundZ b 40 - 4)), Ok Try.prog 19 [iA b, iA 40] (plainR (iA (aroundZ b 40))), cmdAppend Try.prog 23 23 (.row (some (14, 71)) 3 0 []) (rowE es) = some (.grow 14 71 3 0 [] es.length (evA es)), (0 : Nat) = 0, cmdAppend Try.prog 22 22 (.row (some (9, 3)) 1 0 []) (rowI args) = some (.grow 9 3 1 0 [] args.length (args.map iA)), (0 : Nat) = 0] (by kernel_rfl) (allc (by rw [← hk]; exact ok19 _ _ (by omega) (by omega) hb) (allc (by rw [← hc]; exact ok19 _ _ (by omega) (by omega) hh) (allc (hSub _ _ _ _ _ _ rfl (ok_near b hb)) (allc (ok19 _ _ (by omega) (by omega) hb) (allc (el23.grow (rowOf_row _ _ _ _) (fits_of (by omega) (by omega))) (allc (rfl) (allc (el22.grow (rowOf_row _ _ _ _) (fits_of (by omega) (by omega))) (allc (rfl) allnil))))))))

theorem spo0_1 (hh : I64 how) (hb : I64 b) (hla : args.length ≤ 1000000) (hle : es.length ≤ 1000000) (hc : aroundZ how 8 = 0) (hk : aroundZ b 5 = 1) : Ok Try.prog 9 [.agg [iA id, iA ver, rowI args, rowE es, bA cut, iA en], iA how, iA b] (plainR (.agg [iA 1, iA ver, .row none 1 (0 + args.length) (args.map iA), .row none 3 (0 + es.length) (evA es), bA cut, iA en])) := by
  exact Ok.run' 9 (orcC [(20, plainR (iA (aroundZ b 40))), (23, plainR (iA 0)), (46, plainR (iA 1))] [(12, .grow 9 3 1 0 [] args.length (args.map iA)), (17, .grow 14 71 3 0 [] es.length (evA es)), (21, .val (iA (aroundZ b 40 - 4)))]) Try.func9 [Ok Try.prog 19 [iA b, iA 5] (plainR (iA 1)), Ok Try.prog 19 [iA how, iA 8] (plainR (iA 0)), pB .sub 3 (.tmp 20) (.const (.int .i64 4)) (.int .i64 (aroundZ b 40)) (.int .i64 (4)) (iA (aroundZ b 40 - 4)), Ok Try.prog 19 [iA b, iA 40] (plainR (iA (aroundZ b 40))), cmdAppend Try.prog 23 23 (.row (some (14, 71)) 3 0 []) (rowE es) = some (.grow 14 71 3 0 [] es.length (evA es)), (0 : Nat) = 0, cmdAppend Try.prog 22 22 (.row (some (9, 3)) 1 0 []) (rowI args) = some (.grow 9 3 1 0 [] args.length (args.map iA)), (0 : Nat) = 0] (by kernel_rfl) (allc (by rw [← hk]; exact ok19 _ _ (by omega) (by omega) hb) (allc (by rw [← hc]; exact ok19 _ _ (by omega) (by omega) hh) (allc (hSub _ _ _ _ _ _ rfl (ok_near b hb)) (allc (ok19 _ _ (by omega) (by omega) hb) (allc (el23.grow (rowOf_row _ _ _ _) (fits_of (by omega) (by omega))) (allc (rfl) (allc (el22.grow (rowOf_row _ _ _ _) (fits_of (by omega) (by omega))) (allc (rfl) allnil))))))))

theorem spo0_2 (hh : I64 how) (hb : I64 b) (hla : args.length ≤ 1000000) (hle : es.length ≤ 1000000) (hc : aroundZ how 8 = 0) (hk : aroundZ b 5 = 2) : Ok Try.prog 9 [.agg [iA id, iA ver, rowI args, rowE es, bA cut, iA en], iA how, iA b] (plainR (.agg [iA 1048576, iA ver, .row none 1 (0 + args.length) (args.map iA), .row none 3 (0 + es.length) (evA es), bA cut, iA en])) := by
  exact Ok.run' 9 (orcC [(20, plainR (iA (aroundZ b 40))), (23, plainR (iA 0)), (46, plainR (iA 2))] [(12, .grow 9 3 1 0 [] args.length (args.map iA)), (17, .grow 14 71 3 0 [] es.length (evA es)), (21, .val (iA (aroundZ b 40 - 4)))]) Try.func9 [Ok Try.prog 19 [iA b, iA 5] (plainR (iA 2)), Ok Try.prog 19 [iA how, iA 8] (plainR (iA 0)), pB .sub 3 (.tmp 20) (.const (.int .i64 4)) (.int .i64 (aroundZ b 40)) (.int .i64 (4)) (iA (aroundZ b 40 - 4)), Ok Try.prog 19 [iA b, iA 40] (plainR (iA (aroundZ b 40))), cmdAppend Try.prog 23 23 (.row (some (14, 71)) 3 0 []) (rowE es) = some (.grow 14 71 3 0 [] es.length (evA es)), (0 : Nat) = 0, cmdAppend Try.prog 22 22 (.row (some (9, 3)) 1 0 []) (rowI args) = some (.grow 9 3 1 0 [] args.length (args.map iA)), (0 : Nat) = 0] (by kernel_rfl) (allc (by rw [← hk]; exact ok19 _ _ (by omega) (by omega) hb) (allc (by rw [← hc]; exact ok19 _ _ (by omega) (by omega) hh) (allc (hSub _ _ _ _ _ _ rfl (ok_near b hb)) (allc (ok19 _ _ (by omega) (by omega) hb) (allc (el23.grow (rowOf_row _ _ _ _) (fits_of (by omega) (by omega))) (allc (rfl) (allc (el22.grow (rowOf_row _ _ _ _) (fits_of (by omega) (by omega))) (allc (rfl) allnil))))))))

theorem spo0_3 (hh : I64 how) (hb : I64 b) (hla : args.length ≤ 1000000) (hle : es.length ≤ 1000000) (hc : aroundZ how 8 = 0) (hk : aroundZ b 5 = 3) : Ok Try.prog 9 [.agg [iA id, iA ver, rowI args, rowE es, bA cut, iA en], iA how, iA b] (plainR (.agg [iA 1048577, iA ver, .row none 1 (0 + args.length) (args.map iA), .row none 3 (0 + es.length) (evA es), bA cut, iA en])) := by
  exact Ok.run' 9 (orcC [(20, plainR (iA (aroundZ b 40))), (23, plainR (iA 0)), (46, plainR (iA 3))] [(12, .grow 9 3 1 0 [] args.length (args.map iA)), (17, .grow 14 71 3 0 [] es.length (evA es)), (21, .val (iA (aroundZ b 40 - 4)))]) Try.func9 [Ok Try.prog 19 [iA b, iA 5] (plainR (iA 3)), Ok Try.prog 19 [iA how, iA 8] (plainR (iA 0)), pB .sub 3 (.tmp 20) (.const (.int .i64 4)) (.int .i64 (aroundZ b 40)) (.int .i64 (4)) (iA (aroundZ b 40 - 4)), Ok Try.prog 19 [iA b, iA 40] (plainR (iA (aroundZ b 40))), cmdAppend Try.prog 23 23 (.row (some (14, 71)) 3 0 []) (rowE es) = some (.grow 14 71 3 0 [] es.length (evA es)), (0 : Nat) = 0, cmdAppend Try.prog 22 22 (.row (some (9, 3)) 1 0 []) (rowI args) = some (.grow 9 3 1 0 [] args.length (args.map iA)), (0 : Nat) = 0] (by kernel_rfl) (allc (by rw [← hk]; exact ok19 _ _ (by omega) (by omega) hb) (allc (by rw [← hc]; exact ok19 _ _ (by omega) (by omega) hh) (allc (hSub _ _ _ _ _ _ rfl (ok_near b hb)) (allc (ok19 _ _ (by omega) (by omega) hb) (allc (el23.grow (rowOf_row _ _ _ _) (fits_of (by omega) (by omega))) (allc (rfl) (allc (el22.grow (rowOf_row _ _ _ _) (fits_of (by omega) (by omega))) (allc (rfl) allnil))))))))

theorem spo0_4 (hh : I64 how) (hb : I64 b) (hla : args.length ≤ 1000000) (hle : es.length ≤ 1000000) (hc : aroundZ how 8 = 0) (hk : aroundZ b 5 = 4) : Ok Try.prog 9 [.agg [iA id, iA ver, rowI args, rowE es, bA cut, iA en], iA how, iA b] (plainR (.agg [iA b, iA ver, .row none 1 (0 + args.length) (args.map iA), .row none 3 (0 + es.length) (evA es), bA cut, iA en])) := by
  exact Ok.run' 9 (orcC [(20, plainR (iA (aroundZ b 40))), (23, plainR (iA 0)), (46, plainR (iA 4))] [(12, .grow 9 3 1 0 [] args.length (args.map iA)), (17, .grow 14 71 3 0 [] es.length (evA es)), (21, .val (iA (aroundZ b 40 - 4)))]) Try.func9 [Ok Try.prog 19 [iA b, iA 5] (plainR (iA 4)), Ok Try.prog 19 [iA how, iA 8] (plainR (iA 0)), pB .sub 3 (.tmp 20) (.const (.int .i64 4)) (.int .i64 (aroundZ b 40)) (.int .i64 (4)) (iA (aroundZ b 40 - 4)), Ok Try.prog 19 [iA b, iA 40] (plainR (iA (aroundZ b 40))), cmdAppend Try.prog 23 23 (.row (some (14, 71)) 3 0 []) (rowE es) = some (.grow 14 71 3 0 [] es.length (evA es)), (0 : Nat) = 0, cmdAppend Try.prog 22 22 (.row (some (9, 3)) 1 0 []) (rowI args) = some (.grow 9 3 1 0 [] args.length (args.map iA)), (0 : Nat) = 0] (by kernel_rfl) (allc (by rw [← hk]; exact ok19 _ _ (by omega) (by omega) hb) (allc (by rw [← hc]; exact ok19 _ _ (by omega) (by omega) hh) (allc (hSub _ _ _ _ _ _ rfl (ok_near b hb)) (allc (ok19 _ _ (by omega) (by omega) hb) (allc (el23.grow (rowOf_row _ _ _ _) (fits_of (by omega) (by omega))) (allc (rfl) (allc (el22.grow (rowOf_row _ _ _ _) (fits_of (by omega) (by omega))) (allc (rfl) allnil))))))))

theorem spo1 (hh : I64 how) (hb : I64 b) (hla : args.length ≤ 1000000) (hle : es.length ≤ 1000000) (hc : aroundZ how 8 = 1) : Ok Try.prog 9 [.agg [iA id, iA ver, rowI args, rowE es, bA cut, iA en], iA how, iA b] (plainR (.agg [iA id, iA (aroundZ b 40 - 4), .row none 1 (0 + args.length) (args.map iA), .row none 3 (0 + es.length) (evA es), bA cut, iA en])) := by
  exact Ok.run' 9 (orcC [(20, plainR (iA (aroundZ b 40))), (23, plainR (iA 1))] [(12, .grow 9 3 1 0 [] args.length (args.map iA)), (17, .grow 14 71 3 0 [] es.length (evA es)), (21, .val (iA (aroundZ b 40 - 4)))]) Try.func9 [Ok Try.prog 19 [iA how, iA 8] (plainR (iA 1)), pB .sub 3 (.tmp 20) (.const (.int .i64 4)) (.int .i64 (aroundZ b 40)) (.int .i64 (4)) (iA (aroundZ b 40 - 4)), Ok Try.prog 19 [iA b, iA 40] (plainR (iA (aroundZ b 40))), cmdAppend Try.prog 23 23 (.row (some (14, 71)) 3 0 []) (rowE es) = some (.grow 14 71 3 0 [] es.length (evA es)), (0 : Nat) = 0, cmdAppend Try.prog 22 22 (.row (some (9, 3)) 1 0 []) (rowI args) = some (.grow 9 3 1 0 [] args.length (args.map iA)), (0 : Nat) = 0] (by kernel_rfl) (allc (by rw [← hc]; exact ok19 _ _ (by omega) (by omega) hh) (allc (hSub _ _ _ _ _ _ rfl (ok_near b hb)) (allc (ok19 _ _ (by omega) (by omega) hb) (allc (el23.grow (rowOf_row _ _ _ _) (fits_of (by omega) (by omega))) (allc (rfl) (allc (el22.grow (rowOf_row _ _ _ _) (fits_of (by omega) (by omega))) (allc (rfl) allnil)))))))

theorem spo2 (hh : I64 how) (hb : I64 b) (hla : args.length ≤ 1000000) (hle : es.length ≤ 1000000) (hc : aroundZ how 8 = 2) : Ok Try.prog 9 [.agg [iA id, iA ver, rowI args, rowE es, bA cut, iA en], iA how, iA b] (plainR (.agg [iA id, iA ver, .row none 1 (0 + args.length + 1) (args.map iA ++ [iA (aroundZ b 20 - 10)]), .row none 3 (0 + es.length) (evA es), bA cut, iA en])) := by
  exact Ok.run' 9 (orcC [(20, plainR (iA (aroundZ b 40))), (23, plainR (iA 2)), (59, plainR (iA (aroundZ b 20)))] [(12, .grow 9 3 1 0 [] args.length (args.map iA)), (17, .grow 14 71 3 0 [] es.length (evA es)), (21, .val (iA (aroundZ b 40 - 4))), (60, .val (iA (aroundZ b 20 - 10))), (62, .grow 9 3 1 (0 + args.length) (args.map iA) 1 [iA (aroundZ b 20 - 10)])]) Try.func9 [cmdAppend Try.prog 22 22 (.row (some (9, 3)) 1 (0 + args.length) (args.map iA)) (.row (some (61, 3)) 1 1 [iA (aroundZ b 20 - 10)]) = some (.grow 9 3 1 (0 + args.length) (args.map iA) 1 [iA (aroundZ b 20 - 10)]), (0 + args.length) * 1 = (0 + args.length) * 1, pB .sub 3 (.tmp 59) (.const (.int .i64 10)) (.int .i64 (aroundZ b 20)) (.int .i64 (10)) (iA (aroundZ b 20 - 10)), Ok Try.prog 19 [iA b, iA 20] (plainR (iA (aroundZ b 20))), Ok Try.prog 19 [iA how, iA 8] (plainR (iA 2)), pB .sub 3 (.tmp 20) (.const (.int .i64 4)) (.int .i64 (aroundZ b 40)) (.int .i64 (4)) (iA (aroundZ b 40 - 4)), Ok Try.prog 19 [iA b, iA 40] (plainR (iA (aroundZ b 40))), cmdAppend Try.prog 23 23 (.row (some (14, 71)) 3 0 []) (rowE es) = some (.grow 14 71 3 0 [] es.length (evA es)), (0 : Nat) = 0, cmdAppend Try.prog 22 22 (.row (some (9, 3)) 1 0 []) (rowI args) = some (.grow 9 3 1 0 [] args.length (args.map iA)), (0 : Nat) = 0] (by kernel_rfl) (allc (el22.grow (rowOf_row _ _ _ _) (fits_of (by omega) (by omega))) (allc (rfl) (allc (hSub _ _ _ _ _ _ rfl (by have := aroundZ_bd b 20 (by omega) (by omega); exact ⟨by omega, by omega⟩)) (allc (ok19 _ _ (by omega) (by omega) hb) (allc (by rw [← hc]; exact ok19 _ _ (by omega) (by omega) hh) (allc (hSub _ _ _ _ _ _ rfl (ok_near b hb)) (allc (ok19 _ _ (by omega) (by omega) hb) (allc (el23.grow (rowOf_row _ _ _ _) (fits_of (by omega) (by omega))) (allc (rfl) (allc (el22.grow (rowOf_row _ _ _ _) (fits_of (by omega) (by omega))) (allc (rfl) allnil)))))))))))

theorem spo3 (hh : I64 how) (hb : I64 b) (hla : args.length ≤ 1000000) (hle : es.length ≤ 1000000) (hc : aroundZ how 8 = 3) : Ok Try.prog 9 [.agg [iA id, iA ver, rowI args, rowE es, bA cut, iA en], iA how, iA b] (plainR (.agg [iA id, iA ver, .row none 1 (0 + args.length) (args.map iA), .row none 3 (0 + es.length) (evA es), bA (!cut), iA en])) := by
  exact Ok.run' 9 (orcC [(20, plainR (iA (aroundZ b 40))), (23, plainR (iA 3))] [(12, .grow 9 3 1 0 [] args.length (args.map iA)), (17, .grow 14 71 3 0 [] es.length (evA es)), (21, .val (iA (aroundZ b 40 - 4)))]) Try.func9 [Ok Try.prog 19 [iA how, iA 8] (plainR (iA 3)), pB .sub 3 (.tmp 20) (.const (.int .i64 4)) (.int .i64 (aroundZ b 40)) (.int .i64 (4)) (iA (aroundZ b 40 - 4)), Ok Try.prog 19 [iA b, iA 40] (plainR (iA (aroundZ b 40))), cmdAppend Try.prog 23 23 (.row (some (14, 71)) 3 0 []) (rowE es) = some (.grow 14 71 3 0 [] es.length (evA es)), (0 : Nat) = 0, cmdAppend Try.prog 22 22 (.row (some (9, 3)) 1 0 []) (rowI args) = some (.grow 9 3 1 0 [] args.length (args.map iA)), (0 : Nat) = 0] (by kernel_rfl) (allc (by rw [← hc]; exact ok19 _ _ (by omega) (by omega) hh) (allc (hSub _ _ _ _ _ _ rfl (ok_near b hb)) (allc (ok19 _ _ (by omega) (by omega) hb) (allc (el23.grow (rowOf_row _ _ _ _) (fits_of (by omega) (by omega))) (allc (rfl) (allc (el22.grow (rowOf_row _ _ _ _) (fits_of (by omega) (by omega))) (allc (rfl) allnil)))))))

theorem spo4 (hh : I64 how) (hb : I64 b) (hla : args.length ≤ 1000000) (hle : es.length ≤ 1000000) (hc : aroundZ how 8 = 4) : Ok Try.prog 9 [.agg [iA id, iA ver, rowI args, rowE es, bA cut, iA en], iA how, iA b] (plainR (.agg [iA id, iA ver, .row none 1 (0 + args.length) (args.map iA), .row none 3 (0 + es.length) (evA es), bA cut, iA (aroundZ b 40 - 4)])) := by
  exact Ok.run' 9 (orcC [(20, plainR (iA (aroundZ b 40))), (23, plainR (iA 4))] [(12, .grow 9 3 1 0 [] args.length (args.map iA)), (17, .grow 14 71 3 0 [] es.length (evA es)), (21, .val (iA (aroundZ b 40 - 4)))]) Try.func9 [Ok Try.prog 19 [iA how, iA 8] (plainR (iA 4)), pB .sub 3 (.tmp 20) (.const (.int .i64 4)) (.int .i64 (aroundZ b 40)) (.int .i64 (4)) (iA (aroundZ b 40 - 4)), Ok Try.prog 19 [iA b, iA 40] (plainR (iA (aroundZ b 40))), cmdAppend Try.prog 23 23 (.row (some (14, 71)) 3 0 []) (rowE es) = some (.grow 14 71 3 0 [] es.length (evA es)), (0 : Nat) = 0, cmdAppend Try.prog 22 22 (.row (some (9, 3)) 1 0 []) (rowI args) = some (.grow 9 3 1 0 [] args.length (args.map iA)), (0 : Nat) = 0] (by kernel_rfl) (allc (by rw [← hc]; exact ok19 _ _ (by omega) (by omega) hh) (allc (hSub _ _ _ _ _ _ rfl (ok_near b hb)) (allc (ok19 _ _ (by omega) (by omega) hb) (allc (el23.grow (rowOf_row _ _ _ _) (fits_of (by omega) (by omega))) (allc (rfl) (allc (el22.grow (rowOf_row _ _ _ _) (fits_of (by omega) (by omega))) (allc (rfl) allnil)))))))

theorem spo5 (hh : I64 how) (hb : I64 b) (hla : args.length ≤ 1000000) (hle : es.length ≤ 1000000) (hc : aroundZ how 8 = 5) : Ok Try.prog 9 [.agg [iA id, iA ver, rowI args, rowE es, bA cut, iA en], iA how, iA b] (plainR (.agg [iA id, iA ver, .row none 1 (0 + args.length) (args.map iA), .row none 3 (0 + es.length + 1) (evA es ++ [iA (aroundZ b 6 - 1), iA (aroundZ (b.tdiv 6) 5 - 1), iA (aroundZ (b.tdiv 30) 20 - 10)]), bA cut, iA en])) := by
  exact Ok.run' 9 (orcC [(20, plainR (iA (aroundZ b 40))), (23, plainR (iA 5)), (79, plainR (iA (aroundZ (b) 6))), (83, plainR (iA (aroundZ (b.tdiv 6) 5))), (87, plainR (iA (aroundZ (b.tdiv 30) 20)))] [(12, .grow 9 3 1 0 [] args.length (args.map iA)), (17, .grow 14 71 3 0 [] es.length (evA es)), (21, .val (iA (aroundZ b 40 - 4))), (80, .val (iA (aroundZ (b) 6 - 1))), (82, .val (iA (b.tdiv 6))), (84, .val (iA (aroundZ (b.tdiv 6) 5 - 1))), (86, .val (iA (b.tdiv 30))), (88, .val (iA (aroundZ (b.tdiv 30) 20 - 10))), (91, .grow 14 71 3 (0 + es.length) (evA es) 1 [iA (aroundZ b 6 - 1), iA (aroundZ (b.tdiv 6) 5 - 1), iA (aroundZ (b.tdiv 30) 20 - 10)])]) Try.func9 [cmdAppend Try.prog 23 23 (.row (some (14, 71)) 3 (0 + es.length) (evA es)) (.row (some (90, 71)) 3 1 [iA (aroundZ b 6 - 1), iA (aroundZ (b.tdiv 6) 5 - 1), iA (aroundZ (b.tdiv 30) 20 - 10)]) = some (.grow 14 71 3 (0 + es.length) (evA es) 1 [iA (aroundZ b 6 - 1), iA (aroundZ (b.tdiv 6) 5 - 1), iA (aroundZ (b.tdiv 30) 20 - 10)]), (0 + es.length) * 3 = (0 + es.length) * 3, pB .sub 3 (.tmp 87) (.const (.int .i64 10)) (.int .i64 (aroundZ (b.tdiv 30) 20)) (.int .i64 (10)) (iA (aroundZ (b.tdiv 30) 20 - 10)), Ok Try.prog 19 [iA (b.tdiv 30), iA 20] (plainR (iA (aroundZ (b.tdiv 30) 20))), pB .quo 3 (.tmp 85) (.const (.int .i64 30)) (.int .i64 (b)) (.int .i64 (30)) (iA (b.tdiv 30)), pB .sub 3 (.tmp 83) (.const (.int .i64 1)) (.int .i64 (aroundZ (b.tdiv 6) 5)) (.int .i64 (1)) (iA (aroundZ (b.tdiv 6) 5 - 1)), Ok Try.prog 19 [iA (b.tdiv 6), iA 5] (plainR (iA (aroundZ (b.tdiv 6) 5))), pB .quo 3 (.tmp 81) (.const (.int .i64 6)) (.int .i64 (b)) (.int .i64 (6)) (iA (b.tdiv 6)), pB .sub 3 (.tmp 79) (.const (.int .i64 1)) (.int .i64 (aroundZ (b) 6)) (.int .i64 (1)) (iA (aroundZ (b) 6 - 1)), Ok Try.prog 19 [iA (b), iA 6] (plainR (iA (aroundZ (b) 6))), Ok Try.prog 19 [iA how, iA 8] (plainR (iA 5)), pB .sub 3 (.tmp 20) (.const (.int .i64 4)) (.int .i64 (aroundZ b 40)) (.int .i64 (4)) (iA (aroundZ b 40 - 4)), Ok Try.prog 19 [iA b, iA 40] (plainR (iA (aroundZ b 40))), cmdAppend Try.prog 23 23 (.row (some (14, 71)) 3 0 []) (rowE es) = some (.grow 14 71 3 0 [] es.length (evA es)), (0 : Nat) = 0, cmdAppend Try.prog 22 22 (.row (some (9, 3)) 1 0 []) (rowI args) = some (.grow 9 3 1 0 [] args.length (args.map iA)), (0 : Nat) = 0] (by kernel_rfl) (allc (el23.grow (rowOf_row _ _ _ _) (fits_of (by omega) (by omega))) (allc (rfl) (allc (hSub _ _ _ _ _ _ rfl (by have := aroundZ_bd (b.tdiv 30) 20 (by omega) (by omega); exact ⟨by omega, by omega⟩)) (allc (ok19 _ _ (by omega) (by omega) (tdiv_I64 hb 30 (by omega))) (allc (hQuo _ _ _ _ _ _ (by omega) rfl (tdiv_I64 hb 30 (by omega))) (allc (hSub _ _ _ _ _ _ rfl (by have := aroundZ_bd (b.tdiv 6) 5 (by omega) (by omega); exact ⟨by omega, by omega⟩)) (allc (ok19 _ _ (by omega) (by omega) (tdiv_I64 hb 6 (by omega))) (allc (hQuo _ _ _ _ _ _ (by omega) rfl (tdiv_I64 hb 6 (by omega))) (allc (hSub _ _ _ _ _ _ rfl (by have := aroundZ_bd (b) 6 (by omega) (by omega); exact ⟨by omega, by omega⟩)) (allc (ok19 _ _ (by omega) (by omega) hb) (allc (by rw [← hc]; exact ok19 _ _ (by omega) (by omega) hh) (allc (hSub _ _ _ _ _ _ rfl (ok_near b hb)) (allc (ok19 _ _ (by omega) (by omega) hb) (allc (el23.grow (rowOf_row _ _ _ _) (fits_of (by omega) (by omega))) (allc (rfl) (allc (el22.grow (rowOf_row _ _ _ _) (fits_of (by omega) (by omega))) (allc (rfl) allnil)))))))))))))))))

theorem spo7n (hh : I64 how) (hb : I64 b) (hla : args.length ≤ 1000000) (hle : es.length ≤ 1000000) (hc : aroundZ how 8 = 7) (hes : es.length = 0) : Ok Try.prog 9 [.agg [iA id, iA ver, rowI args, rowE es, bA cut, iA en], iA how, iA b] (plainR (.agg [iA id, iA ver, .row none 1 (0 + args.length) (args.map iA), .row none 3 (0 + es.length) (evA es), bA cut, iA en])) := by
  exact Ok.run' 9 (orcC [(20, plainR (iA (aroundZ b 40))), (23, plainR (iA 7))] [(12, .grow 9 3 1 0 [] args.length (args.map iA)), (17, .grow 14 71 3 0 [] es.length (evA es)), (21, .val (iA (aroundZ b 40 - 4))), (27, .val (bA false))]) Try.func9 [pB .gtr 3 (.tmp 26) (.const (.int .i64 0)) (.int .i64 ((0 + es.length : Nat))) (.int .i64 (0)) (bA false), Ok Try.prog 19 [iA how, iA 8] (plainR (iA 7)), pB .sub 3 (.tmp 20) (.const (.int .i64 4)) (.int .i64 (aroundZ b 40)) (.int .i64 (4)) (iA (aroundZ b 40 - 4)), Ok Try.prog 19 [iA b, iA 40] (plainR (iA (aroundZ b 40))), cmdAppend Try.prog 23 23 (.row (some (14, 71)) 3 0 []) (rowE es) = some (.grow 14 71 3 0 [] es.length (evA es)), (0 : Nat) = 0, cmdAppend Try.prog 22 22 (.row (some (9, 3)) 1 0 []) (rowI args) = some (.grow 9 3 1 0 [] args.length (args.map iA)), (0 : Nat) = 0] (by kernel_rfl) (allc (hGtr _ _ _ _ _ _ (decide_eq_false (by omega))) (allc (by rw [← hc]; exact ok19 _ _ (by omega) (by omega) hh) (allc (hSub _ _ _ _ _ _ rfl (ok_near b hb)) (allc (ok19 _ _ (by omega) (by omega) hb) (allc (el23.grow (rowOf_row _ _ _ _) (fits_of (by omega) (by omega))) (allc (rfl) (allc (el22.grow (rowOf_row _ _ _ _) (fits_of (by omega) (by omega))) (allc (rfl) allnil))))))))

end
end Go.Proofs.Ytlekojbcaelpiaa

/- scoriaref38.Spoilt: many more events. -/
namespace Go.Proofs.Ytlekojbcaelpiaa
open Go.RowKit
noncomputable abbrev C9 : Code := bodyOf Try.f9
def evK (es : List Ev) : Nat → List AV
  | 0 => evA es
  | k + 1 => evK es k ++ [iA 0, iA 0, iA 0]
theorem evK_eq (es : List Ev) : ∀ k, evK es k = evA (es ++ List.replicate k ⟨0, 0, 0⟩)
  | 0 => by simp [evK]
  | k + 1 => by rw [evK, evK_eq es k, List.replicate_succ', ← List.append_assoc]; exact (evA_append _ [⟨0, 0, 0⟩]).symm
section
variable (id ver en how b : Int) (args : List Int) (es : List Ev) (cut : Bool)

noncomputable def s9a : St := stOf (runCode Try.prog (orcC [(20, plainR (iA (aroundZ b 40)))] [(12, .grow 9 3 1 0 [] args.length (args.map iA)), (17, .grow 14 71 3 0 [] es.length (evA es)), (21, .val (iA (aroundZ b 40 - 4)))]) (liveOf 9) 0 (pre 4 C9) (start [.agg [iA id, iA ver, rowI args, rowE es, bA cut, iA en], iA how, iA b] 109))
noncomputable def s9b (c : Int) : St := stOf (runCode Try.prog (orcC [(23, plainR (iA c))] []) (liveOf 9) 0 (sX (sX (post 4 C9))) (s9a id ver en how b args es cut))
noncomputable abbrev X9 : Code := bX (sY (sX (post 4 C9)))
def st9 (k : Nat) : St := { n := 109, slots := [(2, iA b), (3, .ptr 3 0), (6, .ptr 6 0), (8, iA k)], objs := [(3, (25, [iA id, iA ver, .row (some (9, 3)) 1 (0 + args.length) (args.map iA), .row (some (14, 71)) 3 (0 + es.length + k) (evK es k), bA cut, iA en])), (6, (25, [.sc (.int .i64 0), .sc (.int .i64 0), .sc (.slice none 0 0), .sc (.slice none 0 0), .sc (.bool false), .sc (.int .i64 0)]))], lens := [(9, (0 + args.length) * 1), (14, (0 + es.length + k) * 3)] }

theorem spo6 (hh : I64 how) (hb : I64 b) (hla : args.length ≤ 1000000) (hle : es.length ≤ 1000000) (hc : aroundZ how 8 = 6) : Ok Try.prog 9 [.agg [iA id, iA ver, rowI args, rowE es, bA cut, iA en], iA how, iA b] (plainR (.agg [iA id, iA ver, .row none 1 (0 + args.length) (args.map iA), .row none 3 (0 + es.length + (250 + aroundZ b 9).toNat) (evK es (250 + aroundZ b 9).toNat), bA cut, iA en])) := by
  refine Ok.judg Try.func9 (c := C9) rfl (by simp [Try.ntmps9]) ?_
  refine Judg.pre' 9 (orcC [(20, plainR (iA (aroundZ b 40)))] [(12, .grow 9 3 1 0 [] args.length (args.map iA)), (17, .grow 14 71 3 0 [] es.length (evA es)), (21, .val (iA (aroundZ b 40 - 4)))]) 4 (s9a id ver en how b args es cut) [pB .sub 3 (.tmp 20) (.const (.int .i64 4)) (.int .i64 (aroundZ b 40)) (.int .i64 (4)) (iA (aroundZ b 40 - 4)), Ok Try.prog 19 [iA b, iA 40] (plainR (iA (aroundZ b 40))), cmdAppend Try.prog 23 23 (.row (some (14, 71)) 3 0 []) (rowE es) = some (.grow 14 71 3 0 [] es.length (evA es)), (0 : Nat) = 0, cmdAppend Try.prog 22 22 (.row (some (9, 3)) 1 0 []) (rowI args) = some (.grow 9 3 1 0 [] args.length (args.map iA)), (0 : Nat) = 0] (by kernel_rfl) (by kernel_rfl) (allc (hSub _ _ _ _ _ _ rfl (ok_near b hb)) (allc (ok19 _ _ (by omega) (by omega) hb) (allc (el23.grow (rowOf_row _ _ _ _) (fits_of (by omega) (by omega))) (allc (rfl) (allc (el22.grow (rowOf_row _ _ _ _) (fits_of (by omega) (by omega))) (allc (rfl) allnil)))))) ?_
  refine Judg.seqE (by kernel_rfl) (Judg.seqE (by kernel_rfl) (Judg.run' 9 (orcC [(23, plainR (iA 6))] []) (.go (s9b id ver en how b args es cut 6)) [Ok Try.prog 19 [iA how, iA 8] (plainR (iA 6)), pB .sub 3 (.tmp 20) (.const (.int .i64 4)) (.int .i64 (aroundZ b 40)) (.int .i64 (4)) (iA (aroundZ b 40 - 4)), Ok Try.prog 19 [iA b, iA 40] (plainR (iA (aroundZ b 40))), cmdAppend Try.prog 23 23 (.row (some (14, 71)) 3 0 []) (rowE es) = some (.grow 14 71 3 0 [] es.length (evA es)), (0 : Nat) = 0, cmdAppend Try.prog 22 22 (.row (some (9, 3)) 1 0 []) (rowI args) = some (.grow 9 3 1 0 [] args.length (args.map iA)), (0 : Nat) = 0] (by kernel_rfl) (by kernel_rfl) (allc (by rw [← hc]; exact ok19 _ _ (by omega) (by omega) hh) (allc (hSub _ _ _ _ _ _ rfl (ok_near b hb)) (allc (ok19 _ _ (by omega) (by omega) hb) (allc (el23.grow (rowOf_row _ _ _ _) (fits_of (by omega) (by omega))) (allc (rfl) (allc (el22.grow (rowOf_row _ _ _ _) (fits_of (by omega) (by omega))) (allc (rfl) allnil))))))) ?_))
  refine Judg.clean (L := [2, 3, 6, 7, 23]) (N := [3, 6, 9, 14]) rfl ?_
  refine Judg.blockE (by kernel_rfl) (Judg.down (H := orc []) (f := 9) 6 (c' := elseOf 6 X9) (s' := downSt (orc []) 9 6 X9 (clean [2, 3, 6, 7, 23] [3, 6, 9, 14] (s9b id ver en how b args es cut 6))) (by kernel_rfl) (by
    rw [show (downSt (orc []) 9 6 X9 (clean [2, 3, 6, 7, 23] [3, 6, 9, 14] (s9b id ver en how b args es cut 6))).log = [] by kernel_rfl]; exact allnil) ?_)
  refine Judg.thenE (by kernel_rfl) 9 (orc []) (stOf (runCode Try.prog (orc []) (liveOf 9) 0 (sX (elseOf 6 X9)) (downSt (orc []) 9 6 X9 (clean [2, 3, 6, 7, 23] [3, 6, 9, 14] (s9b id ver en how b args es cut 6))))) [] (by kernel_rfl) (by kernel_rfl) allnil (by kernel_rfl) ?_
  obtain ⟨m1, m2⟩ := aroundZ_bd b 9 (by omega) (by omega)
  refine Judg.forEnd (ι := Nat) [2, 3, 6, 8] [3, 6, 9, 14] (st9 id ver en b args es cut) (fun k => (250 + aroundZ b 9).toNat - k) (fun k => k ≤ (250 + aroundZ b 9).toNat) (by kernel_rfl) (orc []) (liveOf 9)
    (s1 := stOf (runCode Try.prog (orc []) (liveOf 9) 0 (eR (cA (sY (elseOf 6 X9)))) (stOf (runCode Try.prog (orc []) (liveOf 9) 0 (sX (elseOf 6 X9)) (downSt (orc []) 9 6 X9 (clean [2, 3, 6, 7, 23] [3, 6, 9, 14] (s9b id ver en how b args es cut 6))))))) (by kernel_rfl) (by
      rw [show (stOf (runCode Try.prog (orc []) (liveOf 9) 0 (eR (cA (sY (elseOf 6 X9)))) (stOf (runCode Try.prog (orc []) (liveOf 9) 0 (sX (elseOf 6 X9)) (downSt (orc []) 9 6 X9 (clean [2, 3, 6, 7, 23] [3, 6, 9, 14] (s9b id ver en how b args es cut 6))))))).log = [] by kernel_rfl]; exact allnil) 0 (Nat.zero_le _) (by kernel_rfl) ?_
  intro k hk
  by_cases hlt : k < (250 + aroundZ b 9).toNat
  · exact Judg.run' 9 (orcC [(97, plainR (iA (aroundZ (b) 9)))] [(98, .val (iA (250 + aroundZ b 9))), (99, .val (bA true)), (106, .grow 14 71 3 (0 + es.length + k) (evK es k) 1 [iA 0, iA 0, iA 0]), (101, .val (iA ((k + 1 : Nat) : Int)))]) (.go (stOf (runCode Try.prog (orcC [(97, plainR (iA (aroundZ (b) 9)))] [(98, .val (iA (250 + aroundZ b 9))), (99, .val (bA true)), (106, .grow 14 71 3 (0 + es.length + k) (evK es k) 1 [iA 0, iA 0, iA 0]), (101, .val (iA ((k + 1 : Nat) : Int)))]) (liveOf 9) 0 (eB (cA (sY (elseOf 6 X9)))) (st9 id ver en b args es cut k)))) [pB .add 3 (.tmp 100) (.const (.int .i64 1)) (.int .i64 (k)) (.int .i64 (1)) (iA ((k + 1 : Nat) : Int)), cmdAppend Try.prog 23 23 (.row (some (14, 71)) 3 (0 + es.length + k) (evK es k)) (.row (some (105, 71)) 3 1 [iA 0, iA 0, iA 0]) = some (.grow 14 71 3 (0 + es.length + k) (evK es k) 1 [iA 0, iA 0, iA 0]), (0 + es.length + k) * 3 = (0 + es.length + k) * 3, pB .lss 3 (.tmp 95) (.tmp 98) (.int .i64 (k)) (.int .i64 ((250 + aroundZ b 9))) (bA true), pB .add 3 (.const (.int .i64 250)) (.tmp 97) (.int .i64 (250)) (.int .i64 (aroundZ b 9)) (iA (250 + aroundZ b 9)), Ok Try.prog 19 [iA (b), iA 9] (plainR (iA (aroundZ (b) 9)))] (by kernel_rfl) (by kernel_rfl) (allc (hAdd _ _ _ _ _ _ (by simp) ⟨by omega, by omega⟩) (allc (el23.grow (rowOf_row _ _ _ _) (fits_of (by omega) (by omega))) (allc (rfl) (allc (hLss _ _ _ _ _ _ (decide_eq_true (by omega))) (allc (hAdd _ _ _ _ _ _ rfl (by have := aroundZ_bd b 9 (by omega) (by omega); exact ⟨by omega, by omega⟩)) (allc (ok19 _ _ (by omega) (by omega) hb) allnil)))))) ⟨k + 1, by show k + 1 ≤ _; omega, by show _ - (k + 1) < _ - k; omega, by kernel_rfl⟩
  · obtain rfl : k = (250 + aroundZ b 9).toNat := by omega
    generalize hk' : (250 + aroundZ b 9).toNat = k at hk hlt ⊢
    refine Judg.run' 9 (orcC [(97, plainR (iA (aroundZ (b) 9)))] [(98, .val (iA (250 + aroundZ b 9))), (99, .val (bA false))]) (.exit 1 (stOf (runCode Try.prog (orcC [(97, plainR (iA (aroundZ (b) 9)))] [(98, .val (iA (250 + aroundZ b 9))), (99, .val (bA false))]) (liveOf 9) 0 (eB (cA (sY (elseOf 6 X9)))) (st9 id ver en b args es cut k)))) [pB .lss 3 (.tmp 95) (.tmp 98) (.int .i64 (k)) (.int .i64 ((250 + aroundZ b 9))) (bA false), pB .add 3 (.const (.int .i64 250)) (.tmp 97) (.int .i64 (250)) (.int .i64 (aroundZ b 9)) (iA (250 + aroundZ b 9)), Ok Try.prog 19 [iA (b), iA 9] (plainR (iA (aroundZ (b) 9)))] (by kernel_rfl) (by kernel_rfl) (allc (hLss _ _ _ _ _ _ (decide_eq_false (by omega))) (allc (hAdd _ _ _ _ _ _ rfl (by have := aroundZ_bd b 9 (by omega) (by omega); exact ⟨by omega, by omega⟩)) (allc (ok19 _ _ (by omega) (by omega) hb) allnil))) ?_
    show Judg _ _ _
    exact Judg.run' 9 (orc []) (.ret (stOf (runCode Try.prog (orc []) (liveOf 9) 0 (sY (post 4 C9)) (stOf (runCode Try.prog (orcC [(97, plainR (iA (aroundZ (b) 9)))] [(98, .val (iA (250 + aroundZ b 9))), (99, .val (bA false))]) (liveOf 9) 0 (eB (cA (sY (elseOf 6 X9)))) (st9 id ver en b args es cut k)))))) [pB .lss 3 (.tmp 95) (.tmp 98) (.int .i64 (k)) (.int .i64 ((250 + aroundZ b 9))) (bA false), pB .add 3 (.const (.int .i64 250)) (.tmp 97) (.int .i64 (250)) (.int .i64 (aroundZ b 9)) (iA (250 + aroundZ b 9)), Ok Try.prog 19 [iA (b), iA 9] (plainR (iA (aroundZ (b) 9)))] (by kernel_rfl) (by kernel_rfl) (allc (hLss _ _ _ _ _ _ (decide_eq_false (by omega))) (allc (hAdd _ _ _ _ _ _ rfl (by have := aroundZ_bd b 9 (by omega) (by omega); exact ⟨by omega, by omega⟩)) (allc (ok19 _ _ (by omega) (by omega) hb) allnil))) (fin_ret (l := []) _ (by kernel_rfl) allnil)

end
end Go.Proofs.Ytlekojbcaelpiaa

/- scoriaref38.Spoilt: an event changed; all ways together. -/
namespace Go.Proofs.Ytlekojbcaelpiaa
open Go.RowKit
theorem Rel.putAny {γ : Gh} {w0 w : World} {s : St} {a : Act} (h : Rel γ w0 s a w) {d : Nat} {c : Value} (hd : look s.slots d = none) : Rel γ w0 s (a.put (some d) c) w := by
  refine { h with size := by simp [Act.put, h.size], defers := h.defers, slot := fun t y hy => ?_ }
  have e : d ≠ t := fun e => by subst e; rw [hd] at hy; cases hy
  have : (a.put (some d) c).tmps.getD t undef = a.tmps.getD t undef := by simp [Act.put, Array.getElem?_setIfInBounds_ne e]
  rw [this]; exact h.slot t y hy
theorem put_eval_ne {a : Act} {d t : Nat} {c : Value} (e : d ≠ t) : (a.put (some d) c).eval (.tmp t) = a.eval (.tmp t) := by
  simp [Act.eval, Act.put, Array.getElem?_setIfInBounds_ne e]
theorem put_eval_eq {a : Act} {d : Nat} {c : Value} (e : d < a.tmps.size) : (a.put (some d) c).eval (.tmp d) = c := by
  simp [Act.eval, Act.put, Array.getD, e]
section
variable (id ver en how b : Int) (args : List Int) (es : List Ev) (cut : Bool)
noncomputable abbrev E9 : Code := elseOf 7 X9
noncomputable def s9c : St := downSt (orc []) 9 7 X9 (clean [2, 3, 6, 7, 23] [3, 6, 9, 14] (s9b id ver en how b args es cut 7))
noncomputable def s9d : St := stOf (runCode Try.prog (orc [(27, .val (bA true))]) (liveOf 9) 0 (sX E9) (s9c id ver en how b args es cut))
noncomputable abbrev R9 : Code := cA (sY E9)
noncomputable def H9 : Orc := orcC [(34, plainR (iA (aroundZ b es.length))), (37, plainR (iA (aroundZ (b.tdiv 7) 20)))] [(36, .val (iA (b.tdiv 7))), (38, .val (iA (aroundZ (b.tdiv 7) 20 - 10)))]
noncomputable def s9e : St := match runOps Try.prog (H9 b es) (rOps R9) (itemsOf (rOps R9) (List.range 11)) (clean [2, 3, 6] [3, 6, 9, 14] (s9d id ver en how b args es cut)) with | some s => s | none => { n := 0, slots := [], objs := [], lens := [] }
def st9e (l : List AV) : St := { n := 109, slots := [(3, .ptr 3 0), (6, .ptr 6 0)], objs := [(3, (25, [iA id, iA ver, .row (some (9, 3)) 1 (0 + args.length) (args.map iA), .row (some (14, 71)) 3 (0 + es.length) l, bA cut, iA en])), (6, (25, [.sc (.int .i64 0), .sc (.int .i64 0), .sc (.slice none 0 0), .sc (.slice none 0 0), .sc (.bool false), .sc (.int .i64 0)]))], lens := [(9, (0 + args.length) * 1), (14, (0 + es.length) * 3)] }
noncomputable def o9 (i : Nat) : Oper := (rOps R9)[i]!
theorem evs_set (l : List Ev) (k : Nat) (e : Ev) (v : Int) (h : l[k]? = some e) : (evs l).set (k * 3 + 2) (.int .i64 v) = evs (l.set k { e with n := v }) := by
  induction l generalizing k with
  | nil => simp at h
  | cons x l ih =>
    cases k with
    | zero => simp at h; subst h; simp [evs, Ev.cells]
    | succ k =>
      have := ih k (by simpa using h)
      rw [show (k + 1) * 3 + 2 = (k * 3 + 2) + 1 + 1 + 1 by omega]
      simp [evs, Ev.cells] at this ⊢
      exact this

set_option maxRecDepth 100000 in
theorem spo7 (hh : I64 how) (hb : I64 b) (hla : args.length ≤ 1000000) (hle : es.length ≤ 1000000) (hc : aroundZ how 8 = 7) (hes : 0 < es.length) (e : Ev) (hek : es[(aroundZ b es.length).toNat]? = some e) :
    Ok Try.prog 9 [.agg [iA id, iA ver, rowI args, rowE es, bA cut, iA en], iA how, iA b] (plainR (.agg [iA id, iA ver, .row none 1 (0 + args.length) (args.map iA), .row none 3 (0 + es.length) (evA (es.set (aroundZ b es.length).toNat { e with n := aroundZ (b.tdiv 7) 20 - 10 })), bA cut, iA en])) := by
  refine Ok.judg Try.func9 (c := C9) rfl (by simp [Try.ntmps9]) ?_
  refine Judg.pre' 9 (orcC [(20, plainR (iA (aroundZ b 40)))] [(12, .grow 9 3 1 0 [] args.length (args.map iA)), (17, .grow 14 71 3 0 [] es.length (evA es)), (21, .val (iA (aroundZ b 40 - 4)))]) 4 (s9a id ver en how b args es cut) [pB .sub 3 (.tmp 20) (.const (.int .i64 4)) (.int .i64 (aroundZ b 40)) (.int .i64 (4)) (iA (aroundZ b 40 - 4)), Ok Try.prog 19 [iA b, iA 40] (plainR (iA (aroundZ b 40))), cmdAppend Try.prog 23 23 (.row (some (14, 71)) 3 0 []) (rowE es) = some (.grow 14 71 3 0 [] es.length (evA es)), (0 : Nat) = 0, cmdAppend Try.prog 22 22 (.row (some (9, 3)) 1 0 []) (rowI args) = some (.grow 9 3 1 0 [] args.length (args.map iA)), (0 : Nat) = 0] (by kernel_rfl) (by kernel_rfl) (allc (hSub _ _ _ _ _ _ rfl (ok_near b hb)) (allc (ok19 _ _ (by omega) (by omega) hb) (allc (el23.grow (rowOf_row _ _ _ _) (fits_of (by omega) (by omega))) (allc (rfl) (allc (el22.grow (rowOf_row _ _ _ _) (fits_of (by omega) (by omega))) (allc (rfl) allnil)))))) ?_
  refine Judg.seqE (by kernel_rfl) (Judg.seqE (by kernel_rfl) (Judg.run' 9 (orcC [(23, plainR (iA 7))] []) (.go (s9b id ver en how b args es cut 7)) [Ok Try.prog 19 [iA how, iA 8] (plainR (iA 7)), pB .sub 3 (.tmp 20) (.const (.int .i64 4)) (.int .i64 (aroundZ b 40)) (.int .i64 (4)) (iA (aroundZ b 40 - 4)), Ok Try.prog 19 [iA b, iA 40] (plainR (iA (aroundZ b 40))), cmdAppend Try.prog 23 23 (.row (some (14, 71)) 3 0 []) (rowE es) = some (.grow 14 71 3 0 [] es.length (evA es)), (0 : Nat) = 0, cmdAppend Try.prog 22 22 (.row (some (9, 3)) 1 0 []) (rowI args) = some (.grow 9 3 1 0 [] args.length (args.map iA)), (0 : Nat) = 0] (by kernel_rfl) (by kernel_rfl) (allc (by rw [← hc]; exact ok19 _ _ (by omega) (by omega) hh) (allc (hSub _ _ _ _ _ _ rfl (ok_near b hb)) (allc (ok19 _ _ (by omega) (by omega) hb) (allc (el23.grow (rowOf_row _ _ _ _) (fits_of (by omega) (by omega))) (allc (rfl) (allc (el22.grow (rowOf_row _ _ _ _) (fits_of (by omega) (by omega))) (allc (rfl) allnil))))))) ?_))
  refine Judg.clean (L := [2, 3, 6, 7, 23]) (N := [3, 6, 9, 14]) rfl ?_
  refine Judg.blockE (by kernel_rfl) (Judg.down (H := orc []) (f := 9) 7 (c' := E9) (s' := s9c id ver en how b args es cut) (by kernel_rfl) (by
    rw [show (s9c id ver en how b args es cut).log = [] by kernel_rfl]; exact allnil) ?_)
  refine Judg.thenE (by kernel_rfl) 9 (orc [(27, .val (bA true))]) (s9d id ver en how b args es cut) [pB .gtr 3 (.tmp 26) (.const (.int .i64 0)) (.int .i64 ((0 + es.length : Nat))) (.int .i64 (0)) (bA true)] (by kernel_rfl) (by kernel_rfl) (allc (hGtr _ _ _ _ _ _ (decide_eq_true (by omega))) allnil) (by kernel_rfl) ?_
  refine Judg.clean (L := [2, 3, 6]) (N := [3, 6, 9, 14]) rfl ?_
  have m1 := aroundZ_nonneg b es.length (by omega)
  have m2 := aroundZ_lt b es.length (by omega)
  refine Judg.regionTail (by kernel_rfl) (H9 b es) 9 11 (s9e id ver en how b args es cut) (of_decide_eq_true (by kernel_rfl)) (by kernel_rfl) (by kernel_rfl) (by kernel_rfl) (by
    rw [show (s9e id ver en how b args es cut).log = [pB .sub 3 (.tmp 37) (.const (.int .i64 10)) (.int .i64 (aroundZ (b.tdiv 7) 20)) (.int .i64 10) (iA (aroundZ (b.tdiv 7) 20 - 10)), Ok Try.prog 19 [iA (b.tdiv 7), iA 20] (plainR (iA (aroundZ (b.tdiv 7) 20))), pB .quo 3 (.tmp 35) (.const (.int .i64 7)) (.int .i64 b) (.int .i64 7) (iA (b.tdiv 7)), Ok Try.prog 19 [iA b, iA ((0 + es.length : Nat) : Int)] (plainR (iA (aroundZ b es.length)))] by kernel_rfl]
    exact allc (hSub _ _ _ _ _ _ rfl (by have := aroundZ_bd (b.tdiv 7) 20 (by omega) (by omega); exact ⟨by omega, by omega⟩)) (allc (ok19 _ _ (by omega) (by omega) (tdiv_I64 hb 7 (by omega))) (allc (hQuo _ _ _ _ _ _ (by omega) rfl (tdiv_I64 hb 7 (by omega))) (allc (by rw [Nat.zero_add]; exact ok19 _ _ (by omega) (by omega) hb) allnil)))) ?_
  intro γ0 γ w0 a w hg hr
  have hlist : List.range' 11 ((rOps R9).size - 11) = [11, 12, 13] := by kernel_rfl
  rw [hlist]
  obtain ⟨k, hk⟩ : ∃ k : Nat, aroundZ b es.length = k := ⟨(aroundZ b es.length).toNat, by omega⟩
  have hkl : k < es.length := by omega
  rw [hk] at hek ⊢
  simp only [Int.toNat_natCast] at hek ⊢
  have h29 : AVR1 γ (s9e id ver en how b args es cut).lens w (a.tmps.getD 29 undef) (.row (some (14, 71)) 3 (0 + es.length) ((evs es).map .sc)) := by
    have := hr.slot 29 (.row (some (14, 71)) 3 (0 + es.length) (evA es)) (by kernel_rfl)
    rw [evA_map] at this; exact this
  have h34 : a.tmps.getD 34 undef = .int .i64 (aroundZ b es.length) := hr.slot 34 (iA (aroundZ b es.length)) (by kernel_rfl)
  have h38 : a.tmps.getD 38 undef = .int .i64 (aroundZ (b.tdiv 7) 20 - 10) := hr.slot 38 (iA (aroundZ (b.tdiv 7) 20 - 10)) (by kernel_rfl)
  rw [hk] at h34
  have hst : clean [3, 6] [3, 6, 9, 14] (s9e id ver en how b args es cut) = st9e id ver en args es cut (evA es) := by kernel_rfl
  have hr2 : Rel γ w0 (st9e id ver en args es cut (evA es)) a w := by
    have := (hr.mask [3, 6] [3, 6, 9, 14]).withLog []
    have e2 : { (s9e id ver en how b args es cut).mask [3, 6] [3, 6, 9, 14] with log := [] } = st9e id ver en args es cut (evA es) := hst
    rw [e2] at this; exact this
  have hlens : (s9e id ver en how b args es cut).lens = [(9, (0 + args.length) * 1), (14, (0 + es.length) * 3)] := by kernel_rfl
  have h29' : AVR1 γ (st9e id ver en args es cut (evA es)).lens w (a.tmps.getD 29 undef) (.row (some (14, 71)) 3 (0 + es.length) ((evs es).map .sc)) := h29.weaken fun d len hl => by
    rw [hlens]
    simp only [st9e, look_cons] at hl ⊢
    split at hl
    · rename_i e; subst e; simpa using hl
    · split at hl
      · rename_i e; subst e; simpa using hl
      · cases hl
  obtain ⟨g, cap, w', hcv, hrun, hrel⟩ := hr2.setOwn h29' (by rfl) (off := k * 3 + 2) (by omega) (v := .int .i64 (aroundZ (b.tdiv 7) 20 - 10)) rfl
    (fun t x hx => by
      simp only [st9e, look_cons] at hx
      split at hx
      · cases hx; trivial
      · split at hx
        · cases hx; trivial
        · cases hx)
    (fun d' ty xs hx => by
      simp only [st9e, look_cons] at hx
      split at hx
      · cases hx
        intro x hx
        rw [evA_map] at hx
        simp only [List.mem_cons, List.not_mem_nil, or_false] at hx
        rcases hx with rfl | rfl | rfl | rfl | rfl | rfl
        · exact .inl trivial
        · exact .inl trivial
        · exact .inl ⟨by decide, rfl, ints args, by rw [iA_map]⟩
        · exact .inr rfl
        · exact .inl trivial
        · exact .inl trivial
      · split at hx
        · cases hx
          intro x hx
          simp only [List.mem_cons, List.not_mem_nil, or_false] at hx
          rcases hx with rfl | rfl | rfl | rfl | rfl | rfl <;> exact .inl trivial
        · cases hx)
  rw [evs_set es k e _ hek] at hrel
  have hsz : 109 = a.tmps.size := hr2.size.symm
  have e29 : a.eval (.tmp 29) = .slice (some ⟨g, 0, none⟩) (0 + es.length) cap := hcv
  have e34 : a.eval (.tmp 34) = .int .i64 k := h34
  have e38 : a.eval (.tmp 38) = .int .i64 (aroundZ (b.tdiv 7) 20 - 10) := h38
  have hkl' : (k : Int) < ((0 + es.length : Nat) : Int) := by omega
  refine wpOps_val (o := o9 11) (c := .pointer (some ⟨g, k * 3, none⟩)) (w' := w) (by kernel_rfl) (by kernel_rfl) ?_ ?_
  · have ho : (o9 11).op = .indexAddr 23 (.tmp 29) (.tmp 34) := by kernel_rfl
    simp only [execOp, ho]
    refine v_run ?_
    simp [Instr.indexAt, e29, e34, asIntOf, run_underlying Try.underlying23, run_size' sz71, Addr.add_lit]
    omega
  refine wpOps_val (o := o9 12) (c := .pointer (some ⟨g, k * 3 + 2, none⟩)) (w' := w) (by kernel_rfl) (by kernel_rfl) ?_ ?_
  · have ho : (o9 12).op = .fieldAddr 71 (.tmp 39) 2 := by kernel_rfl
    have hd : (o9 11).dst = some 39 := by kernel_rfl
    simp only [execOp, ho, hd]
    refine v_run ?_
    rw [put_eval_eq (by omega)]
    have h1 := run_underlying (P := Try.prog) (w := w) Try.underlying71
    simp [Instr.fieldAt, h1, Instr.sureAddr, fieldPlace, run_size' sz3, Addr.add_lit]
  refine wpOps_skip (o := o9 13) (w' := w') (by kernel_rfl) (by kernel_rfl) ?_ ?_
  · have ho : (o9 13).op = .store 3 (.tmp 40) (.tmp 38) := by kernel_rfl
    have hd : (o9 11).dst = some 39 := by kernel_rfl
    have hd2 : (o9 12).dst = some 40 := by kernel_rfl
    simp only [execOp, ho, hd, hd2]
    rw [put_eval_eq (by simp [Act.put]; omega), put_eval_ne (by omega), put_eval_ne (by omega), e38]
    simp [Instr.storeAt, Instr.sureAddr, storeVar, run_size' sz3, Value.cells, hrun]
  have hd : (o9 11).dst = some 39 := by kernel_rfl
  have hd2 : (o9 12).dst = some 40 := by kernel_rfl
  have hd3 : (o9 13).dst = none := by kernel_rfl
  rw [hd, hd2, hd3]
  have hfin : ({ st9e id ver en args es cut (evA es) with objs := (st9e id ver en args es cut (evA es)).objs.map fun p => (p.1, (p.2.1, p.2.2.map (repl1 14 ((evs (es.set k { e with n := aroundZ (b.tdiv 7) 20 - 10 })).map .sc)))) } : St) = st9e id ver en args es cut ((evs (es.set k { e with n := aroundZ (b.tdiv 7) 20 - 10 })).map .sc) := by kernel_rfl
  rw [hfin, ← evA_map] at hrel
  generalize evA (es.set k { e with n := aroundZ (b.tdiv 7) 20 - 10 }) = l at hrel ⊢
  refine ⟨.go (st9e id ver en args es cut l), ?_, _, γ, rfl, hg, (hrel.putAny (by rfl)).putAny (by rfl)⟩
  show Judg _ _ _
  exact Judg.run' 9 (orc []) (.ret (stOf (runCode Try.prog (orc []) (liveOf 9) 0 (sY (post 4 C9)) (st9e id ver en args es cut l)))) [] (by kernel_rfl) (by kernel_rfl) allnil (fin_ret (l := []) _ (by kernel_rfl) allnil)
end
theorem row0 {size n : Nat} {xs : List AV} : AV.row none size (0 + n) xs = .row none size n xs := by rw [Nat.zero_add]
theorem ok9 (r : Rp) (how b : Int) (hh : I64 how) (hb : I64 b) (hla : r.args.length ≤ 1000000) (hle : r.events.length ≤ 1000000) : Ok Try.prog 9 [rpA r, iA how, iA b] (plainR (rpA (spoiltR r how b))) := by
  obtain ⟨id, ver, args, es, cut, en⟩ := r
  have h0 := aroundZ_nonneg how 8 (by omega)
  have h1 := aroundZ_lt how 8 (by omega)
  have c : aroundZ how 8 = 0 ∨ aroundZ how 8 = 1 ∨ aroundZ how 8 = 2 ∨ aroundZ how 8 = 3 ∨ aroundZ how 8 = 4 ∨ aroundZ how 8 = 5 ∨ aroundZ how 8 = 6 ∨ aroundZ how 8 = 7 := by omega
  unfold spoiltR
  rcases c with c | c | c | c | c | c | c | c <;> rw [c]
  · have k0 := aroundZ_nonneg b 5 (by omega)
    have k1 := aroundZ_lt b 5 (by omega)
    have k : aroundZ b 5 = 0 ∨ aroundZ b 5 = 1 ∨ aroundZ b 5 = 2 ∨ aroundZ b 5 = 3 ∨ aroundZ b 5 = 4 := by omega
    rcases k with k | k | k | k | k
    · have := spo0_0 id ver en how b args es cut hh hb hla hle c k
      simp only [spoiltM, if_true, k, row0] at this ⊢; exact this
    · have := spo0_1 id ver en how b args es cut hh hb hla hle c k
      simp only [spoiltM, if_true, k, row0] at this ⊢; exact this
    · have := spo0_2 id ver en how b args es cut hh hb hla hle c k
      simp only [spoiltM, if_true, k, row0] at this ⊢; exact this
    · have := spo0_3 id ver en how b args es cut hh hb hla hle c k
      simp only [spoiltM, if_true, k, row0] at this ⊢; exact this
    · have := spo0_4 id ver en how b args es cut hh hb hla hle c k
      simp only [spoiltM, if_true, k, row0] at this ⊢; exact this
  · have := spo1 id ver en how b args es cut hh hb hla hle c
    simp only [row0] at this; exact this
  · have := spo2 id ver en how b args es cut hh hb hla hle c
    simp only [row0, Nat.zero_add] at this
    show Ok Try.prog 9 _ (plainR (rpA ⟨id, ver, args ++ [aroundZ b 20 - 10], es, cut, en⟩))
    simp only [rpA, rowI, List.length_append, List.map_append] at this ⊢
    exact this
  · have := spo3 id ver en how b args es cut hh hb hla hle c
    simp only [row0] at this; exact this
  · have := spo4 id ver en how b args es cut hh hb hla hle c
    simp only [row0] at this; exact this
  · have := spo5 id ver en how b args es cut hh hb hla hle c
    simp only [row0, Nat.zero_add] at this
    show Ok Try.prog 9 _ (plainR (rpA ⟨id, ver, args, es ++ [evOf b], cut, en⟩))
    simp only [rpA, rowE, List.length_append, evA_append] at this ⊢
    exact this
  · have := spo6 id ver en how b args es cut hh hb hla hle c
    simp only [row0, Nat.zero_add, evK_eq] at this
    have e : (es ++ List.replicate (250 + aroundZ b 9).toNat (⟨0, 0, 0⟩ : Ev)).length = es.length + (250 + aroundZ b 9).toNat := by simp
    rw [← e] at this
    exact this
  · show Ok Try.prog 9 _ (plainR (rpA (match es[(aroundZ b es.length).toNat]? with
      | some e => (⟨id, ver, args, es.set (aroundZ b es.length).toNat { e with n := aroundZ (b.tdiv 7) 20 - 10 }, cut, en⟩ : Rp)
      | none => ⟨id, ver, args, es, cut, en⟩)))
    rcases Nat.eq_zero_or_pos es.length with hz | hz
    · have := spo7n id ver en how b args es cut hh hb hla hle c hz
      obtain rfl : es = [] := List.eq_nil_of_length_eq_zero hz
      simp only [row0] at this; exact this
    · have m1 := aroundZ_nonneg b es.length (by omega)
      have m2 := aroundZ_lt b es.length (by omega)
      obtain ⟨e, he⟩ : ∃ e, es[(aroundZ b es.length).toNat]? = some e := ⟨es[(aroundZ b es.length).toNat]'(by omega), List.getElem?_eq_getElem (by omega)⟩
      have := spo7 id ver en how b args es cut hh hb hla hle c hz e he
      simp only [he]
      simp only [row0] at this
      simp only [rpA, rowE, List.length_set] at this ⊢
      exact this
end Go.Proofs.Ytlekojbcaelpiaa

/- scoriaref01.GetInt, count. -/
namespace Go.Proofs.Ytlekojbcaelpiaa
open Go.RowKit
theorem hConvU (c : Int) (h : U8 c) : (peek Try.prog (convert 5 3 (.int .u8 c))).map (fun v => Cmd.val (.sc v)) = some (.val (iA c)) := by
  have e : (peek Try.prog (convert 5 3 (.int .u8 c))).map (fun v => Cmd.val (.sc v)) = some (.val (iA (IntKind.i64.wrap c))) := by kernel_rfl
  rw [e, wrap_id ⟨by obtain ⟨a, b⟩ := h; omega, by obtain ⟨a, b⟩ := h; omega⟩]
theorem hMul (t : TypeId) (x y : Operand) (a b c : Int) (h : a * b = c) (hc : I64 c) : pB .mul t x y (.int .i64 a) (.int .i64 b) (iA c) := by
  subst h
  have e : pB .mul t x y (.int .i64 a) (.int .i64 b) (iA (IntKind.i64.wrap (a * b))) := rfl
  unfold pB at e ⊢
  rw [e, wrap_id hc]
/-- what GetInt's three results read as -/
def ans3 (r : Int × Nat × Int) : AV := .tup [iA r.1, iA (r.2.1 : Nat), iA r.2.2]
theorem beV_take (f : Int → Int) (l : List Int) (i : Nat) : beV f (l.take i) ≤ beV f l := by
  have key : ∀ (l : List Int) (m : Nat), m ≤ l.foldl (fun m c => m * 256 + (f c).toNat) m := by
    intro l
    induction l with
    | nil => intro m; exact Nat.le_refl _
    | cons c l ih => intro m; exact Nat.le_trans (by omega) (ih (m * 256 + (f c).toNat))
  have h : beV f l = (l.drop i).foldl (fun m c => m * 256 + (f c).toNat) (beV f (l.take i)) := by
    unfold beV; rw [← List.foldl_append, List.take_append_drop]
  rw [h]; exact key _ _
noncomputable abbrev C66 : Code := bodyOf Try.f66
def st66 (b : List Int) (x0 : Int) (k M i : Nat) : St := { n := 71, slots := [(0, rowU b), (5, iA (x0)), (6, iA ((k : Nat) : Int)), (7, iA ((M : Nat) : Int)), (8, iA ((i : Nat) : Int))], objs := [], lens := [] }

theorem gi_nil (b : List Int) (hb : b.length = 0) : Ok Try.prog 66 [rowU b] (plainR (ans3 (0, 0, 3))) :=
  Ok.run' 66 (orc [(13, .val (bA true))]) Try.func66 [pB .eql 3 (.tmp 12) (.const (.int .i64 0)) (.int .i64 ((b.length : Nat) : Int)) (.int .i64 (0)) (bA true)] (by kernel_rfl) (allc (hEql _ _ _ _ _ _ ((by rw [beq_iff_eq]; omega))) allnil)

theorem gi_lo (b : List Int) (x0 : Int) (hx : b[0]? = some x0) (h0 : U8 x0) (h : x0 < 119) : Ok Try.prog 66 [rowU b] (plainR (ans3 (0, 0, 2))) :=
  Ok.run' 66 (orc [(13, .val (bA false)), (15, .val (.rptr (uA (x0) :: (b.drop (0 + 1)).map uA))), (17, .val (iA (x0))), (19, .val (bA true))]) Try.func66 [pB .lss 3 (.tmp 18) (.const (.int .i64 119)) (.int .i64 (x0)) (.int .i64 (119)) (bA true), (peek Try.prog (convert 5 3 (.int .u8 (x0)))).map (fun v => Cmd.val (.sc v)) = some (.val (iA (x0))), cmdIndexAddr Try.prog 34 (rowU b) (iA (0)) = some (.val (.rptr (uA (x0) :: (b.drop (0 + 1)).map uA))), pB .eql 3 (.tmp 12) (.const (.int .i64 0)) (.int .i64 ((b.length : Nat) : Int)) (.int .i64 (0)) (bA false)] (by kernel_rfl) (allc (hLss _ _ _ _ _ _ (decide_eq_true (by omega))) (allc (hConvU _ h0) (allc (hIdxU hx) (allc (hEql _ _ _ _ _ _ ((by have : 0 < b.length := (List.getElem?_eq_some_iff.1 hx).1; rw [beq_eq_false_iff_ne]; omega))) allnil))))

theorem gi_hi (b : List Int) (x0 : Int) (hx : b[0]? = some x0) (h0 : U8 x0) (h : 136 < x0) : Ok Try.prog 66 [rowU b] (plainR (ans3 (0, 0, 2))) :=
  Ok.run' 66 (orc [(13, .val (bA false)), (15, .val (.rptr (uA (x0) :: (b.drop (0 + 1)).map uA))), (17, .val (iA (x0))), (19, .val (bA false)), (22, .val (bA true))]) Try.func66 [pB .gtr 3 (.tmp 21) (.const (.int .i64 136)) (.int .i64 (x0)) (.int .i64 (136)) (bA true), pB .lss 3 (.tmp 18) (.const (.int .i64 119)) (.int .i64 (x0)) (.int .i64 (119)) (bA false), (peek Try.prog (convert 5 3 (.int .u8 (x0)))).map (fun v => Cmd.val (.sc v)) = some (.val (iA (x0))), cmdIndexAddr Try.prog 34 (rowU b) (iA (0)) = some (.val (.rptr (uA (x0) :: (b.drop (0 + 1)).map uA))), pB .eql 3 (.tmp 12) (.const (.int .i64 0)) (.int .i64 ((b.length : Nat) : Int)) (.int .i64 (0)) (bA false)] (by kernel_rfl) (allc (hGtr _ _ _ _ _ _ (decide_eq_true (by omega))) (allc (hLss _ _ _ _ _ _ (decide_eq_false (by omega))) (allc (hConvU _ h0) (allc (hIdxU hx) (allc (hEql _ _ _ _ _ _ ((by have : 0 < b.length := (List.getElem?_eq_some_iff.1 hx).1; rw [beq_eq_false_iff_ne]; omega))) allnil)))))

theorem gi_more_n (b : List Int) (x0 : Int) (hx : b[0]? = some x0) (h0 : U8 x0) (k : Nat) (hl : b.length ≤ 1000000000) (hn : x0 < 128) (hk : 127 - x0 = k) (h8 : k ≤ 8) (hs : b.length < k + 1) : Ok Try.prog 66 [rowU b] (plainR (ans3 (0, 0, 3))) :=
  Ok.run' 66 (orc [(13, .val (bA false)), (15, .val (.rptr (uA (x0) :: (b.drop (0 + 1)).map uA))), (17, .val (iA (x0))), (19, .val (bA false)), (22, .val (bA false)), (25, .val (iA ((x0 - 128)))), (27, .val (bA true)), (29, .val (iA ((k : Nat) : Int))), (33, .val (iA ((k + 1 : Nat) : Int))), (34, .val (bA true))]) Try.func66 [pB .lss 3 (.tmp 31) (.tmp 33) (.int .i64 ((b.length : Nat) : Int)) (.int .i64 ((k + 1 : Nat) : Int)) (bA true), pB .add 3 (.tmp 32) (.const (.int .i64 1)) (.int .i64 ((k : Nat) : Int)) (.int .i64 (1)) (iA ((k + 1 : Nat) : Int)), pB .sub 3 (.const (.int .i64 127)) (.tmp 28) (.int .i64 (127)) (.int .i64 (x0)) (iA ((k : Nat) : Int)), pB .lss 3 (.tmp 26) (.const (.int .i64 128)) (.int .i64 (x0)) (.int .i64 (128)) (bA true), pB .sub 3 (.tmp 24) (.const (.int .i64 128)) (.int .i64 (x0)) (.int .i64 (128)) (iA ((x0 - 128))), pB .gtr 3 (.tmp 21) (.const (.int .i64 136)) (.int .i64 (x0)) (.int .i64 (136)) (bA false), pB .lss 3 (.tmp 18) (.const (.int .i64 119)) (.int .i64 (x0)) (.int .i64 (119)) (bA false), (peek Try.prog (convert 5 3 (.int .u8 (x0)))).map (fun v => Cmd.val (.sc v)) = some (.val (iA (x0))), cmdIndexAddr Try.prog 34 (rowU b) (iA (0)) = some (.val (.rptr (uA (x0) :: (b.drop (0 + 1)).map uA))), pB .eql 3 (.tmp 12) (.const (.int .i64 0)) (.int .i64 ((b.length : Nat) : Int)) (.int .i64 (0)) (bA false)] (by kernel_rfl) (allc (hLss _ _ _ _ _ _ (decide_eq_true (by omega))) (allc (hAdd _ _ _ _ _ _ (by simp) ⟨by omega, by omega⟩) (allc (hSub _ _ _ _ _ _ (by omega) ⟨by omega, by omega⟩) (allc (hLss _ _ _ _ _ _ (decide_eq_true (by omega))) (allc (hSub _ _ _ _ _ _ (by omega) ⟨by omega, by omega⟩) (allc (hGtr _ _ _ _ _ _ (decide_eq_false (by omega))) (allc (hLss _ _ _ _ _ _ (decide_eq_false (by omega))) (allc (hConvU _ h0) (allc (hIdxU hx) (allc (hEql _ _ _ _ _ _ ((by have : 0 < b.length := (List.getElem?_eq_some_iff.1 hx).1; rw [beq_eq_false_iff_ne]; omega))) allnil))))))))))

noncomputable def s66na (b : List Int) (x0 : Int) (k : Nat) : St := stOf (runCode Try.prog (orc [(13, .val (bA false)), (15, .val (.rptr (uA (x0) :: (b.drop (0 + 1)).map uA))), (17, .val (iA (x0))), (19, .val (bA false)), (22, .val (bA false)), (25, .val (iA ((x0 - 128)))), (27, .val (bA true)), (29, .val (iA ((k : Nat) : Int))), (33, .val (iA ((k + 1 : Nat) : Int))), (34, .val (bA false))]) (liveOf 66) 0 (Ytlekojbcaelpiaa.pre 8 C66) (start [rowU b] 71))
noncomputable def s66nb (b : List Int) (x0 : Int) (k : Nat) : St := stOf (runCode Try.prog (orc []) (liveOf 66) 0 (fR (post 8 C66)) (s66na b x0 k))
theorem gi_main_n (b : List Int) (x0 : Int) (hx : b[0]? = some x0) (h0 : U8 x0) (k : Nat) (hl : b.length ≤ 1000000000) (hn : x0 < 128) (hk : 127 - x0 = k) (h8 : k ≤ 8) (hb : k + 1 ≤ b.length) (hu : U8s b) : Ok Try.prog 66 [rowU b] (plainR (ans3 (if 9223372036854775808 ≤ beV (fl x0) ((b.drop 1).take k) then (0, 0, 2) else if encZ (numZ x0 (beV (fl x0) ((b.drop 1).take k))) = b.take (k + 1) then (numZ x0 (beV (fl x0) ((b.drop 1).take k)), k + 1, 0) else (0, 0, 2)))) := by
  refine Ok.judg Try.func66 (c := C66) rfl (by simp [Try.ntmps66]) ?_
  refine Judg.pre' 66 (orc [(13, .val (bA false)), (15, .val (.rptr (uA (x0) :: (b.drop (0 + 1)).map uA))), (17, .val (iA (x0))), (19, .val (bA false)), (22, .val (bA false)), (25, .val (iA ((x0 - 128)))), (27, .val (bA true)), (29, .val (iA ((k : Nat) : Int))), (33, .val (iA ((k + 1 : Nat) : Int))), (34, .val (bA false))]) 8 (s66na b x0 k) [pB .lss 3 (.tmp 31) (.tmp 33) (.int .i64 ((b.length : Nat) : Int)) (.int .i64 ((k + 1 : Nat) : Int)) (bA false), pB .add 3 (.tmp 32) (.const (.int .i64 1)) (.int .i64 ((k : Nat) : Int)) (.int .i64 (1)) (iA ((k + 1 : Nat) : Int)), pB .sub 3 (.const (.int .i64 127)) (.tmp 28) (.int .i64 (127)) (.int .i64 (x0)) (iA ((k : Nat) : Int)), pB .lss 3 (.tmp 26) (.const (.int .i64 128)) (.int .i64 (x0)) (.int .i64 (128)) (bA true), pB .sub 3 (.tmp 24) (.const (.int .i64 128)) (.int .i64 (x0)) (.int .i64 (128)) (iA ((x0 - 128))), pB .gtr 3 (.tmp 21) (.const (.int .i64 136)) (.int .i64 (x0)) (.int .i64 (136)) (bA false), pB .lss 3 (.tmp 18) (.const (.int .i64 119)) (.int .i64 (x0)) (.int .i64 (119)) (bA false), (peek Try.prog (convert 5 3 (.int .u8 (x0)))).map (fun v => Cmd.val (.sc v)) = some (.val (iA (x0))), cmdIndexAddr Try.prog 34 (rowU b) (iA (0)) = some (.val (.rptr (uA (x0) :: (b.drop (0 + 1)).map uA))), pB .eql 3 (.tmp 12) (.const (.int .i64 0)) (.int .i64 ((b.length : Nat) : Int)) (.int .i64 (0)) (bA false)] (by kernel_rfl) (by kernel_rfl) (allc (hLss _ _ _ _ _ _ (decide_eq_false (by omega))) (allc (hAdd _ _ _ _ _ _ (by simp) ⟨by omega, by omega⟩) (allc (hSub _ _ _ _ _ _ (by omega) ⟨by omega, by omega⟩) (allc (hLss _ _ _ _ _ _ (decide_eq_true (by omega))) (allc (hSub _ _ _ _ _ _ (by omega) ⟨by omega, by omega⟩) (allc (hGtr _ _ _ _ _ _ (decide_eq_false (by omega))) (allc (hLss _ _ _ _ _ _ (decide_eq_false (by omega))) (allc (hConvU _ h0) (allc (hIdxU hx) (allc (hEql _ _ _ _ _ _ ((by have : 0 < b.length := (List.getElem?_eq_some_iff.1 hx).1; rw [beq_eq_false_iff_ne]; omega))) allnil)))))))))) ?_
  refine Judg.for_ (ι := Nat × Nat) [0, 5, 6, 7, 8] [] (fun p => st66 b x0 k p.2 p.1) (fun p => k + 1 - p.1) (fun p => 1 ≤ p.1 ∧ p.1 ≤ k + 1 ∧ p.2 = beV (fl x0) ((b.drop 1).take (p.1 - 1)) ∧ p.2 < 9223372036854775808) (by kernel_rfl) (orc []) (liveOf 66) (s1 := s66nb b x0 k) (by kernel_rfl)
    (by rw [show (s66nb b x0 k).log = [pB .lss 3 (.tmp 31) (.tmp 33) (.int .i64 ((b.length : Nat) : Int)) (.int .i64 ((k + 1 : Nat) : Int)) (bA false), pB .add 3 (.tmp 32) (.const (.int .i64 1)) (.int .i64 ((k : Nat) : Int)) (.int .i64 (1)) (iA ((k + 1 : Nat) : Int)), pB .sub 3 (.const (.int .i64 127)) (.tmp 28) (.int .i64 (127)) (.int .i64 (x0)) (iA ((k : Nat) : Int)), pB .lss 3 (.tmp 26) (.const (.int .i64 128)) (.int .i64 (x0)) (.int .i64 (128)) (bA true), pB .sub 3 (.tmp 24) (.const (.int .i64 128)) (.int .i64 (x0)) (.int .i64 (128)) (iA ((x0 - 128))), pB .gtr 3 (.tmp 21) (.const (.int .i64 136)) (.int .i64 (x0)) (.int .i64 (136)) (bA false), pB .lss 3 (.tmp 18) (.const (.int .i64 119)) (.int .i64 (x0)) (.int .i64 (119)) (bA false), (peek Try.prog (convert 5 3 (.int .u8 (x0)))).map (fun v => Cmd.val (.sc v)) = some (.val (iA (x0))), cmdIndexAddr Try.prog 34 (rowU b) (iA (0)) = some (.val (.rptr (uA (x0) :: (b.drop (0 + 1)).map uA))), pB .eql 3 (.tmp 12) (.const (.int .i64 0)) (.int .i64 ((b.length : Nat) : Int)) (.int .i64 (0)) (bA false)] by kernel_rfl]; exact (allc (hLss _ _ _ _ _ _ (decide_eq_false (by omega))) (allc (hAdd _ _ _ _ _ _ (by simp) ⟨by omega, by omega⟩) (allc (hSub _ _ _ _ _ _ (by omega) ⟨by omega, by omega⟩) (allc (hLss _ _ _ _ _ _ (decide_eq_true (by omega))) (allc (hSub _ _ _ _ _ _ (by omega) ⟨by omega, by omega⟩) (allc (hGtr _ _ _ _ _ _ (decide_eq_false (by omega))) (allc (hLss _ _ _ _ _ _ (decide_eq_false (by omega))) (allc (hConvU _ h0) (allc (hIdxU hx) (allc (hEql _ _ _ _ _ _ ((by have : 0 < b.length := (List.getElem?_eq_some_iff.1 hx).1; rw [beq_eq_false_iff_ne]; omega))) allnil))))))))))) (1, 0) ⟨by simp, by simp, by simp [beV], by simp⟩ (by kernel_rfl) ?_
  rintro ⟨i, M⟩ ⟨h1, h2, hM, hM2⟩
  simp only at h1 h2 hM hM2 ⊢
  by_cases hik : i ≤ k
  · obtain ⟨c, hc⟩ : ∃ c, b[i]? = some c := ⟨b[i]'(by omega), List.getElem?_eq_getElem (by omega)⟩
    have hcu : U8 c := hu.at_ hc
    have hstep : beV (fl x0) ((b.drop 1).take i) = M * 256 + (fl x0 c).toNat := by
      have e : (b.drop 1).take i = (b.drop 1).take (i - 1) ++ [c] := by
        obtain ⟨j, rfl⟩ : ∃ j, i = j + 1 := ⟨i - 1, by omega⟩
        rw [List.take_add_one]
        have : (b.drop 1)[j]? = some c := by rw [List.getElem?_drop, Nat.add_comm]; exact hc
        rw [this]; rfl
      rw [e, beV_snoc, ← hM]
    by_cases hbig : M > 36028797018963967
    · have hall : 9223372036854775808 ≤ beV (fl x0) ((b.drop 1).take k) := by
        have : (b.drop 1).take i = ((b.drop 1).take k).take i := by rw [List.take_take, Nat.min_eq_left hik]
        have hmono := beV_take (fl x0) ((b.drop 1).take k) i
        rw [← this, hstep] at hmono
        omega
      rw [if_pos hall]
      exact Judg.run' 66 (orc [(37, .val (bA true)), (42, .val (.rptr (uA (c) :: (b.drop (i + 1)).map uA))), (44, .val (iA (c))), (46, .val (bA true)), (48, .val (iA ((255 - c)))), (50, .val (bA true))]) (.ret (stOf (runCode Try.prog (orc [(37, .val (bA true)), (42, .val (.rptr (uA (c) :: (b.drop (i + 1)).map uA))), (44, .val (iA (c))), (46, .val (bA true)), (48, .val (iA ((255 - c)))), (50, .val (bA true))]) (liveOf 66) 0 (fB (post 8 C66)) (st66 b x0 k M i)))) [pB .gtr 3 (.tmp 49) (.const (.int .i64 36028797018963967)) (.int .i64 ((M : Nat) : Int)) (.int .i64 (36028797018963967)) (bA true), pB .sub 3 (.const (.int .i64 255)) (.tmp 47) (.int .i64 (255)) (.int .i64 (c)) (iA ((255 - c))), pB .lss 3 (.tmp 45) (.const (.int .i64 128)) (.int .i64 (x0)) (.int .i64 (128)) (bA true), (peek Try.prog (convert 5 3 (.int .u8 (c)))).map (fun v => Cmd.val (.sc v)) = some (.val (iA (c))), cmdIndexAddr Try.prog 34 (rowU b) (iA ((i : Nat) : Int)) = some (.val (.rptr (uA (c) :: (b.drop (i + 1)).map uA))), pB .leq 3 (.tmp 35) (.tmp 36) (.int .i64 ((i : Nat) : Int)) (.int .i64 ((k : Nat) : Int)) (bA true)] (by kernel_rfl) (by kernel_rfl) (allc (hGtr _ _ _ _ _ _ (decide_eq_true (by omega))) (allc (hSub _ _ _ _ _ _ rfl ⟨by obtain ⟨u1, u2⟩ := hcu; omega, by obtain ⟨u1, u2⟩ := hcu; omega⟩) (allc (hLss _ _ _ _ _ _ (decide_eq_true (by omega))) (allc (hConvU _ hcu) (allc (hIdxU hc) (allc (hLeq _ _ _ _ _ _ (decide_eq_true (by omega))) allnil)))))) (fin_ret (l := []) _ (by kernel_rfl) allnil)
    · refine Judg.run' 66 (orc [(37, .val (bA true)), (42, .val (.rptr (uA (c) :: (b.drop (i + 1)).map uA))), (44, .val (iA (c))), (46, .val (bA true)), (48, .val (iA ((255 - c)))), (50, .val (bA false)), (52, .val (iA ((256 * M : Nat) : Int))), (54, .val (iA ((M * 256 + (fl x0 c).toNat : Nat) : Int))), (39, .val (iA ((i + 1 : Nat) : Int)))]) (.go (stOf (runCode Try.prog (orc [(37, .val (bA true)), (42, .val (.rptr (uA (c) :: (b.drop (i + 1)).map uA))), (44, .val (iA (c))), (46, .val (bA true)), (48, .val (iA ((255 - c)))), (50, .val (bA false)), (52, .val (iA ((256 * M : Nat) : Int))), (54, .val (iA ((M * 256 + (fl x0 c).toNat : Nat) : Int))), (39, .val (iA ((i + 1 : Nat) : Int)))]) (liveOf 66) 0 (fB (post 8 C66)) (st66 b x0 k M i)))) [pB .add 3 (.tmp 38) (.const (.int .i64 1)) (.int .i64 ((i : Nat) : Int)) (.int .i64 (1)) (iA ((i + 1 : Nat) : Int)), pB .add 3 (.tmp 52) (.tmp 53) (.int .i64 ((256 * M : Nat) : Int)) (.int .i64 ((255 - c))) (iA ((M * 256 + (fl x0 c).toNat : Nat) : Int)), pB .mul 3 (.const (.int .i64 256)) (.tmp 51) (.int .i64 (256)) (.int .i64 ((M : Nat) : Int)) (iA ((256 * M : Nat) : Int)), pB .gtr 3 (.tmp 49) (.const (.int .i64 36028797018963967)) (.int .i64 ((M : Nat) : Int)) (.int .i64 (36028797018963967)) (bA false), pB .sub 3 (.const (.int .i64 255)) (.tmp 47) (.int .i64 (255)) (.int .i64 (c)) (iA ((255 - c))), pB .lss 3 (.tmp 45) (.const (.int .i64 128)) (.int .i64 (x0)) (.int .i64 (128)) (bA true), (peek Try.prog (convert 5 3 (.int .u8 (c)))).map (fun v => Cmd.val (.sc v)) = some (.val (iA (c))), cmdIndexAddr Try.prog 34 (rowU b) (iA ((i : Nat) : Int)) = some (.val (.rptr (uA (c) :: (b.drop (i + 1)).map uA))), pB .leq 3 (.tmp 35) (.tmp 36) (.int .i64 ((i : Nat) : Int)) (.int .i64 ((k : Nat) : Int)) (bA true)] (by kernel_rfl) (by kernel_rfl) (allc (hAdd _ _ _ _ _ _ (by simp) ⟨by omega, by omega⟩) (allc (hAdd _ _ _ _ _ _ (by obtain ⟨u1, u2⟩ := hcu; unfold fl; rw [if_pos hn]; omega) ⟨by obtain ⟨u1, u2⟩ := hcu; unfold fl; rw [if_pos hn]; omega, by obtain ⟨u1, u2⟩ := hcu; unfold fl; rw [if_pos hn]; omega⟩) (allc (hMul _ _ _ _ _ _ (by simp) ⟨by omega, by omega⟩) (allc (hGtr _ _ _ _ _ _ (decide_eq_false (by omega))) (allc (hSub _ _ _ _ _ _ rfl ⟨by obtain ⟨u1, u2⟩ := hcu; omega, by obtain ⟨u1, u2⟩ := hcu; omega⟩) (allc (hLss _ _ _ _ _ _ (decide_eq_true (by omega))) (allc (hConvU _ hcu) (allc (hIdxU hc) (allc (hLeq _ _ _ _ _ _ (decide_eq_true (by omega))) allnil))))))))) ⟨(i + 1, M * 256 + (fl x0 c).toNat), ⟨by simp, by simp; omega, ?_, ?_⟩, by simp; omega, by kernel_rfl⟩
      · simp only [Nat.add_sub_cancel]; exact hstep.symm
      · have := (fl_bd (x0 := x0) hcu).2; simp; omega
  · obtain rfl : i = k + 1 := by omega
    rw [Nat.add_sub_cancel] at hM
    rw [← hM, if_neg (by omega)]
    have hnum : numZ x0 M = (-1 - (M : Int)) := by unfold numZ; rw [if_pos hn]
    rw [hnum]
    refine Judg.run' 66 (orc [(37, .val (bA false))]) (.exit 0 (stOf (runCode Try.prog (orc [(37, .val (bA false))]) (liveOf 66) 0 (fB (post 8 C66)) (st66 b x0 k M (k + 1))))) [pB .leq 3 (.tmp 35) (.tmp 36) (.int .i64 ((k + 1 : Nat) : Int)) (.int .i64 ((k : Nat) : Int)) (bA false)] (by kernel_rfl) (by kernel_rfl) (allc (hLeq _ _ _ _ _ _ (decide_eq_false (by omega))) allnil) ?_
    show Judg (fK (post 8 C66)) _ _
    have hs13 := ok13 (encZ (-1 - (M : Int))) (b.take (k + 1)) (by rw [encZ_length]; have := nb_le (mag (-1 - (M : Int))) (mag_lt _ (by omega) (by omega)); omega) (by simp; omega)
    have hrow : rowU (b.take (k + 1)) = .row none 1 (k + 1) ((b.map uA).take ((k + 1) * 1)) := by
      unfold rowU; rw [List.length_take, Nat.min_eq_left hb, Nat.mul_one, List.map_take]
    rw [hrow] at hs13
    by_cases he : encZ (-1 - (M : Int)) = b.take (k + 1)
    · rw [if_pos he]
      have hsame : Ok Try.prog 13 [rowU (encZ (-1 - (M : Int))), .row none 1 (k + 1) ((b.map uA).take ((k + 1) * 1))] (plainR (bA true)) := by
        have : eqI (encZ (-1 - (M : Int))) (b.take (k + 1)) = true := by simp [eqI, he]
        rw [this] at hs13; exact hs13
      exact Judg.run' 66 (orcC [(61, ownU (encZ (-1 - (M : Int)))), (66, plainR (bA true))] [(57, .val (bA true)), (59, .val (iA ((-1 - (M : Int))))), (64, .val (iA ((k + 1 : Nat) : Int))), (65, .val (.row none 1 (k + 1) ((b.map uA).take ((k + 1) * 1)))), (70, .val (iA ((k + 1 : Nat) : Int)))]) (.ret (stOf (runCode Try.prog (orcC [(61, ownU (encZ (-1 - (M : Int)))), (66, plainR (bA true))] [(57, .val (bA true)), (59, .val (iA ((-1 - (M : Int))))), (64, .val (iA ((k + 1 : Nat) : Int))), (65, .val (.row none 1 (k + 1) ((b.map uA).take ((k + 1) * 1)))), (70, .val (iA ((k + 1 : Nat) : Int)))]) (liveOf 66) 0 (fK (post 8 C66)) (stOf (runCode Try.prog (orc [(37, .val (bA false))]) (liveOf 66) 0 (fB (post 8 C66)) (st66 b x0 k M (k + 1))))))) [pB .add 3 (.tmp 69) (.const (.int .i64 1)) (.int .i64 ((k : Nat) : Int)) (.int .i64 (1)) (iA ((k + 1 : Nat) : Int)), Ok Try.prog 13 [rowU (encZ (-1 - (M : Int))), .row none 1 (k + 1) ((b.map uA).take ((k + 1) * 1))] (plainR (bA true)), cmdSlice Try.prog 34 (rowU b) none (some (iA ((k + 1 : Nat) : Int))) none = some (.val (.row none 1 (k + 1) ((b.map uA).take ((k + 1) * 1)))), pB .add 3 (.tmp 63) (.const (.int .i64 1)) (.int .i64 ((k : Nat) : Int)) (.int .i64 (1)) (iA ((k + 1 : Nat) : Int)), Ok Try.prog 64 [iA ((-1 - (M : Int)))] (ownU (encZ (-1 - (M : Int)))), pB .sub 3 (.const (.int .i64 (-1))) (.tmp 58) (.int .i64 (-1)) (.int .i64 ((M : Nat) : Int)) (iA ((-1 - (M : Int)))), pB .lss 3 (.tmp 56) (.const (.int .i64 128)) (.int .i64 (x0)) (.int .i64 (128)) (bA true), pB .leq 3 (.tmp 35) (.tmp 36) (.int .i64 ((k + 1 : Nat) : Int)) (.int .i64 ((k : Nat) : Int)) (bA false)] (by kernel_rfl) (by kernel_rfl) (allc (hAdd _ _ _ _ _ _ (by simp) ⟨by omega, by omega⟩) (allc (hsame) (allc (el34.slHi (rowOf_row _ _ _ _) (by omega)) (allc (hAdd _ _ _ _ _ _ (by simp) ⟨by omega, by omega⟩) (allc (ok64 _ ⟨by omega, by omega⟩) (allc (hSub _ _ _ _ _ _ rfl ⟨by omega, by omega⟩) (allc (hLss _ _ _ _ _ _ (decide_eq_true (by omega))) (allc (hLeq _ _ _ _ _ _ (decide_eq_false (by omega))) allnil)))))))) (fin_ret (l := []) _ (by kernel_rfl) allnil)
    · rw [if_neg he]
      have hsame : Ok Try.prog 13 [rowU (encZ (-1 - (M : Int))), .row none 1 (k + 1) ((b.map uA).take ((k + 1) * 1))] (plainR (bA false)) := by
        have : eqI (encZ (-1 - (M : Int))) (b.take (k + 1)) = false := by simp [eqI, he]
        rw [this] at hs13; exact hs13
      exact Judg.run' 66 (orcC [(61, ownU (encZ (-1 - (M : Int)))), (66, plainR (bA false))] [(57, .val (bA true)), (59, .val (iA ((-1 - (M : Int))))), (64, .val (iA ((k + 1 : Nat) : Int))), (65, .val (.row none 1 (k + 1) ((b.map uA).take ((k + 1) * 1))))]) (.ret (stOf (runCode Try.prog (orcC [(61, ownU (encZ (-1 - (M : Int)))), (66, plainR (bA false))] [(57, .val (bA true)), (59, .val (iA ((-1 - (M : Int))))), (64, .val (iA ((k + 1 : Nat) : Int))), (65, .val (.row none 1 (k + 1) ((b.map uA).take ((k + 1) * 1))))]) (liveOf 66) 0 (fK (post 8 C66)) (stOf (runCode Try.prog (orc [(37, .val (bA false))]) (liveOf 66) 0 (fB (post 8 C66)) (st66 b x0 k M (k + 1))))))) [Ok Try.prog 13 [rowU (encZ (-1 - (M : Int))), .row none 1 (k + 1) ((b.map uA).take ((k + 1) * 1))] (plainR (bA false)), cmdSlice Try.prog 34 (rowU b) none (some (iA ((k + 1 : Nat) : Int))) none = some (.val (.row none 1 (k + 1) ((b.map uA).take ((k + 1) * 1)))), pB .add 3 (.tmp 63) (.const (.int .i64 1)) (.int .i64 ((k : Nat) : Int)) (.int .i64 (1)) (iA ((k + 1 : Nat) : Int)), Ok Try.prog 64 [iA ((-1 - (M : Int)))] (ownU (encZ (-1 - (M : Int)))), pB .sub 3 (.const (.int .i64 (-1))) (.tmp 58) (.int .i64 (-1)) (.int .i64 ((M : Nat) : Int)) (iA ((-1 - (M : Int)))), pB .lss 3 (.tmp 56) (.const (.int .i64 128)) (.int .i64 (x0)) (.int .i64 (128)) (bA true), pB .leq 3 (.tmp 35) (.tmp 36) (.int .i64 ((k + 1 : Nat) : Int)) (.int .i64 ((k : Nat) : Int)) (bA false)] (by kernel_rfl) (by kernel_rfl) (allc (hsame) (allc (el34.slHi (rowOf_row _ _ _ _) (by omega)) (allc (hAdd _ _ _ _ _ _ (by simp) ⟨by omega, by omega⟩) (allc (ok64 _ ⟨by omega, by omega⟩) (allc (hSub _ _ _ _ _ _ rfl ⟨by omega, by omega⟩) (allc (hLss _ _ _ _ _ _ (decide_eq_true (by omega))) (allc (hLeq _ _ _ _ _ _ (decide_eq_false (by omega))) allnil))))))) (fin_ret (l := []) _ (by kernel_rfl) allnil)

theorem gi_more_p (b : List Int) (x0 : Int) (hx : b[0]? = some x0) (h0 : U8 x0) (k : Nat) (hl : b.length ≤ 1000000000) (hn : ¬ x0 < 128) (hk : x0 - 128 = k) (h8 : k ≤ 8) (hs : b.length < k + 1) : Ok Try.prog 66 [rowU b] (plainR (ans3 (0, 0, 3))) :=
  Ok.run' 66 (orc [(13, .val (bA false)), (15, .val (.rptr (uA (x0) :: (b.drop (0 + 1)).map uA))), (17, .val (iA (x0))), (19, .val (bA false)), (22, .val (bA false)), (25, .val (iA ((k : Nat) : Int))), (27, .val (bA false)), (33, .val (iA ((k + 1 : Nat) : Int))), (34, .val (bA true))]) Try.func66 [pB .lss 3 (.tmp 31) (.tmp 33) (.int .i64 ((b.length : Nat) : Int)) (.int .i64 ((k + 1 : Nat) : Int)) (bA true), pB .add 3 (.tmp 32) (.const (.int .i64 1)) (.int .i64 ((k : Nat) : Int)) (.int .i64 (1)) (iA ((k + 1 : Nat) : Int)), pB .lss 3 (.tmp 26) (.const (.int .i64 128)) (.int .i64 (x0)) (.int .i64 (128)) (bA false), pB .sub 3 (.tmp 24) (.const (.int .i64 128)) (.int .i64 (x0)) (.int .i64 (128)) (iA ((k : Nat) : Int)), pB .gtr 3 (.tmp 21) (.const (.int .i64 136)) (.int .i64 (x0)) (.int .i64 (136)) (bA false), pB .lss 3 (.tmp 18) (.const (.int .i64 119)) (.int .i64 (x0)) (.int .i64 (119)) (bA false), (peek Try.prog (convert 5 3 (.int .u8 (x0)))).map (fun v => Cmd.val (.sc v)) = some (.val (iA (x0))), cmdIndexAddr Try.prog 34 (rowU b) (iA (0)) = some (.val (.rptr (uA (x0) :: (b.drop (0 + 1)).map uA))), pB .eql 3 (.tmp 12) (.const (.int .i64 0)) (.int .i64 ((b.length : Nat) : Int)) (.int .i64 (0)) (bA false)] (by kernel_rfl) (allc (hLss _ _ _ _ _ _ (decide_eq_true (by omega))) (allc (hAdd _ _ _ _ _ _ (by simp) ⟨by omega, by omega⟩) (allc (hLss _ _ _ _ _ _ (decide_eq_false (by omega))) (allc (hSub _ _ _ _ _ _ (by omega) ⟨by omega, by omega⟩) (allc (hGtr _ _ _ _ _ _ (decide_eq_false (by omega))) (allc (hLss _ _ _ _ _ _ (decide_eq_false (by omega))) (allc (hConvU _ h0) (allc (hIdxU hx) (allc (hEql _ _ _ _ _ _ ((by have : 0 < b.length := (List.getElem?_eq_some_iff.1 hx).1; rw [beq_eq_false_iff_ne]; omega))) allnil)))))))))

noncomputable def s66pa (b : List Int) (x0 : Int) (k : Nat) : St := stOf (runCode Try.prog (orc [(13, .val (bA false)), (15, .val (.rptr (uA (x0) :: (b.drop (0 + 1)).map uA))), (17, .val (iA (x0))), (19, .val (bA false)), (22, .val (bA false)), (25, .val (iA ((k : Nat) : Int))), (27, .val (bA false)), (33, .val (iA ((k + 1 : Nat) : Int))), (34, .val (bA false))]) (liveOf 66) 0 (Ytlekojbcaelpiaa.pre 8 C66) (start [rowU b] 71))
noncomputable def s66pb (b : List Int) (x0 : Int) (k : Nat) : St := stOf (runCode Try.prog (orc []) (liveOf 66) 0 (fR (post 8 C66)) (s66pa b x0 k))
theorem gi_main_p (b : List Int) (x0 : Int) (hx : b[0]? = some x0) (h0 : U8 x0) (k : Nat) (hl : b.length ≤ 1000000000) (hn : ¬ x0 < 128) (hk : x0 - 128 = k) (h8 : k ≤ 8) (hb : k + 1 ≤ b.length) (hu : U8s b) : Ok Try.prog 66 [rowU b] (plainR (ans3 (if 9223372036854775808 ≤ beV (fl x0) ((b.drop 1).take k) then (0, 0, 2) else if encZ (numZ x0 (beV (fl x0) ((b.drop 1).take k))) = b.take (k + 1) then (numZ x0 (beV (fl x0) ((b.drop 1).take k)), k + 1, 0) else (0, 0, 2)))) := by
  refine Ok.judg Try.func66 (c := C66) rfl (by simp [Try.ntmps66]) ?_
  refine Judg.pre' 66 (orc [(13, .val (bA false)), (15, .val (.rptr (uA (x0) :: (b.drop (0 + 1)).map uA))), (17, .val (iA (x0))), (19, .val (bA false)), (22, .val (bA false)), (25, .val (iA ((k : Nat) : Int))), (27, .val (bA false)), (33, .val (iA ((k + 1 : Nat) : Int))), (34, .val (bA false))]) 8 (s66pa b x0 k) [pB .lss 3 (.tmp 31) (.tmp 33) (.int .i64 ((b.length : Nat) : Int)) (.int .i64 ((k + 1 : Nat) : Int)) (bA false), pB .add 3 (.tmp 32) (.const (.int .i64 1)) (.int .i64 ((k : Nat) : Int)) (.int .i64 (1)) (iA ((k + 1 : Nat) : Int)), pB .lss 3 (.tmp 26) (.const (.int .i64 128)) (.int .i64 (x0)) (.int .i64 (128)) (bA false), pB .sub 3 (.tmp 24) (.const (.int .i64 128)) (.int .i64 (x0)) (.int .i64 (128)) (iA ((k : Nat) : Int)), pB .gtr 3 (.tmp 21) (.const (.int .i64 136)) (.int .i64 (x0)) (.int .i64 (136)) (bA false), pB .lss 3 (.tmp 18) (.const (.int .i64 119)) (.int .i64 (x0)) (.int .i64 (119)) (bA false), (peek Try.prog (convert 5 3 (.int .u8 (x0)))).map (fun v => Cmd.val (.sc v)) = some (.val (iA (x0))), cmdIndexAddr Try.prog 34 (rowU b) (iA (0)) = some (.val (.rptr (uA (x0) :: (b.drop (0 + 1)).map uA))), pB .eql 3 (.tmp 12) (.const (.int .i64 0)) (.int .i64 ((b.length : Nat) : Int)) (.int .i64 (0)) (bA false)] (by kernel_rfl) (by kernel_rfl) (allc (hLss _ _ _ _ _ _ (decide_eq_false (by omega))) (allc (hAdd _ _ _ _ _ _ (by simp) ⟨by omega, by omega⟩) (allc (hLss _ _ _ _ _ _ (decide_eq_false (by omega))) (allc (hSub _ _ _ _ _ _ (by omega) ⟨by omega, by omega⟩) (allc (hGtr _ _ _ _ _ _ (decide_eq_false (by omega))) (allc (hLss _ _ _ _ _ _ (decide_eq_false (by omega))) (allc (hConvU _ h0) (allc (hIdxU hx) (allc (hEql _ _ _ _ _ _ ((by have : 0 < b.length := (List.getElem?_eq_some_iff.1 hx).1; rw [beq_eq_false_iff_ne]; omega))) allnil))))))))) ?_
  refine Judg.for_ (ι := Nat × Nat) [0, 5, 6, 7, 8] [] (fun p => st66 b x0 k p.2 p.1) (fun p => k + 1 - p.1) (fun p => 1 ≤ p.1 ∧ p.1 ≤ k + 1 ∧ p.2 = beV (fl x0) ((b.drop 1).take (p.1 - 1)) ∧ p.2 < 9223372036854775808) (by kernel_rfl) (orc []) (liveOf 66) (s1 := s66pb b x0 k) (by kernel_rfl)
    (by rw [show (s66pb b x0 k).log = [pB .lss 3 (.tmp 31) (.tmp 33) (.int .i64 ((b.length : Nat) : Int)) (.int .i64 ((k + 1 : Nat) : Int)) (bA false), pB .add 3 (.tmp 32) (.const (.int .i64 1)) (.int .i64 ((k : Nat) : Int)) (.int .i64 (1)) (iA ((k + 1 : Nat) : Int)), pB .lss 3 (.tmp 26) (.const (.int .i64 128)) (.int .i64 (x0)) (.int .i64 (128)) (bA false), pB .sub 3 (.tmp 24) (.const (.int .i64 128)) (.int .i64 (x0)) (.int .i64 (128)) (iA ((k : Nat) : Int)), pB .gtr 3 (.tmp 21) (.const (.int .i64 136)) (.int .i64 (x0)) (.int .i64 (136)) (bA false), pB .lss 3 (.tmp 18) (.const (.int .i64 119)) (.int .i64 (x0)) (.int .i64 (119)) (bA false), (peek Try.prog (convert 5 3 (.int .u8 (x0)))).map (fun v => Cmd.val (.sc v)) = some (.val (iA (x0))), cmdIndexAddr Try.prog 34 (rowU b) (iA (0)) = some (.val (.rptr (uA (x0) :: (b.drop (0 + 1)).map uA))), pB .eql 3 (.tmp 12) (.const (.int .i64 0)) (.int .i64 ((b.length : Nat) : Int)) (.int .i64 (0)) (bA false)] by kernel_rfl]; exact (allc (hLss _ _ _ _ _ _ (decide_eq_false (by omega))) (allc (hAdd _ _ _ _ _ _ (by simp) ⟨by omega, by omega⟩) (allc (hLss _ _ _ _ _ _ (decide_eq_false (by omega))) (allc (hSub _ _ _ _ _ _ (by omega) ⟨by omega, by omega⟩) (allc (hGtr _ _ _ _ _ _ (decide_eq_false (by omega))) (allc (hLss _ _ _ _ _ _ (decide_eq_false (by omega))) (allc (hConvU _ h0) (allc (hIdxU hx) (allc (hEql _ _ _ _ _ _ ((by have : 0 < b.length := (List.getElem?_eq_some_iff.1 hx).1; rw [beq_eq_false_iff_ne]; omega))) allnil)))))))))) (1, 0) ⟨by simp, by simp, by simp [beV], by simp⟩ (by kernel_rfl) ?_
  rintro ⟨i, M⟩ ⟨h1, h2, hM, hM2⟩
  simp only at h1 h2 hM hM2 ⊢
  by_cases hik : i ≤ k
  · obtain ⟨c, hc⟩ : ∃ c, b[i]? = some c := ⟨b[i]'(by omega), List.getElem?_eq_getElem (by omega)⟩
    have hcu : U8 c := hu.at_ hc
    have hstep : beV (fl x0) ((b.drop 1).take i) = M * 256 + (fl x0 c).toNat := by
      have e : (b.drop 1).take i = (b.drop 1).take (i - 1) ++ [c] := by
        obtain ⟨j, rfl⟩ : ∃ j, i = j + 1 := ⟨i - 1, by omega⟩
        rw [List.take_add_one]
        have : (b.drop 1)[j]? = some c := by rw [List.getElem?_drop, Nat.add_comm]; exact hc
        rw [this]; rfl
      rw [e, beV_snoc, ← hM]
    by_cases hbig : M > 36028797018963967
    · have hall : 9223372036854775808 ≤ beV (fl x0) ((b.drop 1).take k) := by
        have : (b.drop 1).take i = ((b.drop 1).take k).take i := by rw [List.take_take, Nat.min_eq_left hik]
        have hmono := beV_take (fl x0) ((b.drop 1).take k) i
        rw [← this, hstep] at hmono
        omega
      rw [if_pos hall]
      exact Judg.run' 66 (orc [(37, .val (bA true)), (42, .val (.rptr (uA (c) :: (b.drop (i + 1)).map uA))), (44, .val (iA (c))), (46, .val (bA false)), (50, .val (bA true))]) (.ret (stOf (runCode Try.prog (orc [(37, .val (bA true)), (42, .val (.rptr (uA (c) :: (b.drop (i + 1)).map uA))), (44, .val (iA (c))), (46, .val (bA false)), (50, .val (bA true))]) (liveOf 66) 0 (fB (post 8 C66)) (st66 b x0 k M i)))) [pB .gtr 3 (.tmp 49) (.const (.int .i64 36028797018963967)) (.int .i64 ((M : Nat) : Int)) (.int .i64 (36028797018963967)) (bA true), pB .lss 3 (.tmp 45) (.const (.int .i64 128)) (.int .i64 (x0)) (.int .i64 (128)) (bA false), (peek Try.prog (convert 5 3 (.int .u8 (c)))).map (fun v => Cmd.val (.sc v)) = some (.val (iA (c))), cmdIndexAddr Try.prog 34 (rowU b) (iA ((i : Nat) : Int)) = some (.val (.rptr (uA (c) :: (b.drop (i + 1)).map uA))), pB .leq 3 (.tmp 35) (.tmp 36) (.int .i64 ((i : Nat) : Int)) (.int .i64 ((k : Nat) : Int)) (bA true)] (by kernel_rfl) (by kernel_rfl) (allc (hGtr _ _ _ _ _ _ (decide_eq_true (by omega))) (allc (hLss _ _ _ _ _ _ (decide_eq_false (by omega))) (allc (hConvU _ hcu) (allc (hIdxU hc) (allc (hLeq _ _ _ _ _ _ (decide_eq_true (by omega))) allnil))))) (fin_ret (l := []) _ (by kernel_rfl) allnil)
    · refine Judg.run' 66 (orc [(37, .val (bA true)), (42, .val (.rptr (uA (c) :: (b.drop (i + 1)).map uA))), (44, .val (iA (c))), (46, .val (bA false)), (50, .val (bA false)), (52, .val (iA ((256 * M : Nat) : Int))), (54, .val (iA ((M * 256 + (fl x0 c).toNat : Nat) : Int))), (39, .val (iA ((i + 1 : Nat) : Int)))]) (.go (stOf (runCode Try.prog (orc [(37, .val (bA true)), (42, .val (.rptr (uA (c) :: (b.drop (i + 1)).map uA))), (44, .val (iA (c))), (46, .val (bA false)), (50, .val (bA false)), (52, .val (iA ((256 * M : Nat) : Int))), (54, .val (iA ((M * 256 + (fl x0 c).toNat : Nat) : Int))), (39, .val (iA ((i + 1 : Nat) : Int)))]) (liveOf 66) 0 (fB (post 8 C66)) (st66 b x0 k M i)))) [pB .add 3 (.tmp 38) (.const (.int .i64 1)) (.int .i64 ((i : Nat) : Int)) (.int .i64 (1)) (iA ((i + 1 : Nat) : Int)), pB .add 3 (.tmp 52) (.tmp 53) (.int .i64 ((256 * M : Nat) : Int)) (.int .i64 (c)) (iA ((M * 256 + (fl x0 c).toNat : Nat) : Int)), pB .mul 3 (.const (.int .i64 256)) (.tmp 51) (.int .i64 (256)) (.int .i64 ((M : Nat) : Int)) (iA ((256 * M : Nat) : Int)), pB .gtr 3 (.tmp 49) (.const (.int .i64 36028797018963967)) (.int .i64 ((M : Nat) : Int)) (.int .i64 (36028797018963967)) (bA false), pB .lss 3 (.tmp 45) (.const (.int .i64 128)) (.int .i64 (x0)) (.int .i64 (128)) (bA false), (peek Try.prog (convert 5 3 (.int .u8 (c)))).map (fun v => Cmd.val (.sc v)) = some (.val (iA (c))), cmdIndexAddr Try.prog 34 (rowU b) (iA ((i : Nat) : Int)) = some (.val (.rptr (uA (c) :: (b.drop (i + 1)).map uA))), pB .leq 3 (.tmp 35) (.tmp 36) (.int .i64 ((i : Nat) : Int)) (.int .i64 ((k : Nat) : Int)) (bA true)] (by kernel_rfl) (by kernel_rfl) (allc (hAdd _ _ _ _ _ _ (by simp) ⟨by omega, by omega⟩) (allc (hAdd _ _ _ _ _ _ (by obtain ⟨u1, u2⟩ := hcu; unfold fl; rw [if_neg hn]; omega) ⟨by obtain ⟨u1, u2⟩ := hcu; unfold fl; rw [if_neg hn]; omega, by obtain ⟨u1, u2⟩ := hcu; unfold fl; rw [if_neg hn]; omega⟩) (allc (hMul _ _ _ _ _ _ (by simp) ⟨by omega, by omega⟩) (allc (hGtr _ _ _ _ _ _ (decide_eq_false (by omega))) (allc (hLss _ _ _ _ _ _ (decide_eq_false (by omega))) (allc (hConvU _ hcu) (allc (hIdxU hc) (allc (hLeq _ _ _ _ _ _ (decide_eq_true (by omega))) allnil)))))))) ⟨(i + 1, M * 256 + (fl x0 c).toNat), ⟨by simp, by simp; omega, ?_, ?_⟩, by simp; omega, by kernel_rfl⟩
      · simp only [Nat.add_sub_cancel]; exact hstep.symm
      · have := (fl_bd (x0 := x0) hcu).2; simp; omega
  · obtain rfl : i = k + 1 := by omega
    rw [Nat.add_sub_cancel] at hM
    rw [← hM, if_neg (by omega)]
    have hnum : numZ x0 M = (M : Int) := by unfold numZ; rw [if_neg hn]
    rw [hnum]
    refine Judg.run' 66 (orc [(37, .val (bA false))]) (.exit 0 (stOf (runCode Try.prog (orc [(37, .val (bA false))]) (liveOf 66) 0 (fB (post 8 C66)) (st66 b x0 k M (k + 1))))) [pB .leq 3 (.tmp 35) (.tmp 36) (.int .i64 ((k + 1 : Nat) : Int)) (.int .i64 ((k : Nat) : Int)) (bA false)] (by kernel_rfl) (by kernel_rfl) (allc (hLeq _ _ _ _ _ _ (decide_eq_false (by omega))) allnil) ?_
    show Judg (fK (post 8 C66)) _ _
    have hs13 := ok13 (encZ (M : Int)) (b.take (k + 1)) (by rw [encZ_length]; have := nb_le (mag (M : Int)) (mag_lt _ (by omega) (by omega)); omega) (by simp; omega)
    have hrow : rowU (b.take (k + 1)) = .row none 1 (k + 1) ((b.map uA).take ((k + 1) * 1)) := by
      unfold rowU; rw [List.length_take, Nat.min_eq_left hb, Nat.mul_one, List.map_take]
    rw [hrow] at hs13
    by_cases he : encZ (M : Int) = b.take (k + 1)
    · rw [if_pos he]
      have hsame : Ok Try.prog 13 [rowU (encZ (M : Int)), .row none 1 (k + 1) ((b.map uA).take ((k + 1) * 1))] (plainR (bA true)) := by
        have : eqI (encZ (M : Int)) (b.take (k + 1)) = true := by simp [eqI, he]
        rw [this] at hs13; exact hs13
      exact Judg.run' 66 (orcC [(61, ownU (encZ ((M : Nat) : Int))), (66, plainR (bA true))] [(57, .val (bA false)), (64, .val (iA ((k + 1 : Nat) : Int))), (65, .val (.row none 1 (k + 1) ((b.map uA).take ((k + 1) * 1)))), (70, .val (iA ((k + 1 : Nat) : Int)))]) (.ret (stOf (runCode Try.prog (orcC [(61, ownU (encZ ((M : Nat) : Int))), (66, plainR (bA true))] [(57, .val (bA false)), (64, .val (iA ((k + 1 : Nat) : Int))), (65, .val (.row none 1 (k + 1) ((b.map uA).take ((k + 1) * 1)))), (70, .val (iA ((k + 1 : Nat) : Int)))]) (liveOf 66) 0 (fK (post 8 C66)) (stOf (runCode Try.prog (orc [(37, .val (bA false))]) (liveOf 66) 0 (fB (post 8 C66)) (st66 b x0 k M (k + 1))))))) [pB .add 3 (.tmp 69) (.const (.int .i64 1)) (.int .i64 ((k : Nat) : Int)) (.int .i64 (1)) (iA ((k + 1 : Nat) : Int)), Ok Try.prog 13 [rowU (encZ ((M : Nat) : Int)), .row none 1 (k + 1) ((b.map uA).take ((k + 1) * 1))] (plainR (bA true)), cmdSlice Try.prog 34 (rowU b) none (some (iA ((k + 1 : Nat) : Int))) none = some (.val (.row none 1 (k + 1) ((b.map uA).take ((k + 1) * 1)))), pB .add 3 (.tmp 63) (.const (.int .i64 1)) (.int .i64 ((k : Nat) : Int)) (.int .i64 (1)) (iA ((k + 1 : Nat) : Int)), Ok Try.prog 64 [iA ((M : Nat) : Int)] (ownU (encZ ((M : Nat) : Int))), pB .lss 3 (.tmp 56) (.const (.int .i64 128)) (.int .i64 (x0)) (.int .i64 (128)) (bA false), pB .leq 3 (.tmp 35) (.tmp 36) (.int .i64 ((k + 1 : Nat) : Int)) (.int .i64 ((k : Nat) : Int)) (bA false)] (by kernel_rfl) (by kernel_rfl) (allc (hAdd _ _ _ _ _ _ (by simp) ⟨by omega, by omega⟩) (allc (hsame) (allc (el34.slHi (rowOf_row _ _ _ _) (by omega)) (allc (hAdd _ _ _ _ _ _ (by simp) ⟨by omega, by omega⟩) (allc (ok64 _ ⟨by omega, by omega⟩) (allc (hLss _ _ _ _ _ _ (decide_eq_false (by omega))) (allc (hLeq _ _ _ _ _ _ (decide_eq_false (by omega))) allnil))))))) (fin_ret (l := []) _ (by kernel_rfl) allnil)
    · rw [if_neg he]
      have hsame : Ok Try.prog 13 [rowU (encZ (M : Int)), .row none 1 (k + 1) ((b.map uA).take ((k + 1) * 1))] (plainR (bA false)) := by
        have : eqI (encZ (M : Int)) (b.take (k + 1)) = false := by simp [eqI, he]
        rw [this] at hs13; exact hs13
      exact Judg.run' 66 (orcC [(61, ownU (encZ ((M : Nat) : Int))), (66, plainR (bA false))] [(57, .val (bA false)), (64, .val (iA ((k + 1 : Nat) : Int))), (65, .val (.row none 1 (k + 1) ((b.map uA).take ((k + 1) * 1))))]) (.ret (stOf (runCode Try.prog (orcC [(61, ownU (encZ ((M : Nat) : Int))), (66, plainR (bA false))] [(57, .val (bA false)), (64, .val (iA ((k + 1 : Nat) : Int))), (65, .val (.row none 1 (k + 1) ((b.map uA).take ((k + 1) * 1))))]) (liveOf 66) 0 (fK (post 8 C66)) (stOf (runCode Try.prog (orc [(37, .val (bA false))]) (liveOf 66) 0 (fB (post 8 C66)) (st66 b x0 k M (k + 1))))))) [Ok Try.prog 13 [rowU (encZ ((M : Nat) : Int)), .row none 1 (k + 1) ((b.map uA).take ((k + 1) * 1))] (plainR (bA false)), cmdSlice Try.prog 34 (rowU b) none (some (iA ((k + 1 : Nat) : Int))) none = some (.val (.row none 1 (k + 1) ((b.map uA).take ((k + 1) * 1)))), pB .add 3 (.tmp 63) (.const (.int .i64 1)) (.int .i64 ((k : Nat) : Int)) (.int .i64 (1)) (iA ((k + 1 : Nat) : Int)), Ok Try.prog 64 [iA ((M : Nat) : Int)] (ownU (encZ ((M : Nat) : Int))), pB .lss 3 (.tmp 56) (.const (.int .i64 128)) (.int .i64 (x0)) (.int .i64 (128)) (bA false), pB .leq 3 (.tmp 35) (.tmp 36) (.int .i64 ((k + 1 : Nat) : Int)) (.int .i64 ((k : Nat) : Int)) (bA false)] (by kernel_rfl) (by kernel_rfl) (allc (hsame) (allc (el34.slHi (rowOf_row _ _ _ _) (by omega)) (allc (hAdd _ _ _ _ _ _ (by simp) ⟨by omega, by omega⟩) (allc (ok64 _ ⟨by omega, by omega⟩) (allc (hLss _ _ _ _ _ _ (decide_eq_false (by omega))) (allc (hLeq _ _ _ _ _ _ (decide_eq_false (by omega))) allnil)))))) (fin_ret (l := []) _ (by kernel_rfl) allnil)

end Go.Proofs.Ytlekojbcaelpiaa

/- scoriaref01.count, GetInts. -/
namespace Go.Proofs.Ytlekojbcaelpiaa
open Go.RowKit
theorem ok66 (b : List Int) (hl : b.length ≤ 1000000000) (hu : U8s b) : Ok Try.prog 66 [rowU b] (plainR (ans3 (getZ b))) := by
  rw [← refZ_getZ b hu]
  cases b with
  | nil => exact gi_nil [] rfl
  | cons x0 t =>
    have hx : (x0 :: t)[0]? = some x0 := rfl
    have h0 : U8 x0 := hu.at_ hx
    unfold refZ
    simp only
    by_cases h1 : x0 < 119
    · rw [if_pos (.inl h1)]; exact gi_lo _ x0 hx h0 h1
    by_cases h2 : 136 < x0
    · rw [if_pos (.inr h2)]; exact gi_hi _ x0 hx h0 h2
    rw [if_neg (by omega)]
    by_cases hn : x0 < 128
    · have e : (fl x0 x0 - 128).toNat = (127 - x0).toNat := by rw [fl_neg _ _ hn]; omega
      rw [e]
      obtain ⟨k, hk⟩ := Int.eq_ofNat_of_zero_le (show 0 ≤ 127 - x0 by omega)
      rw [hk, Int.toNat_natCast]
      by_cases hm : t.length < k
      · rw [if_pos hm]; exact gi_more_n _ x0 hx h0 k hl hn hk (by omega) (by simp; omega)
      · rw [if_neg hm]; exact gi_main_n _ x0 hx h0 k hl hn hk (by omega) (by simp; omega) hu
    · have e : (fl x0 x0 - 128).toNat = (x0 - 128).toNat := by rw [fl_pos _ _ hn]
      rw [e]
      obtain ⟨k, hk⟩ := Int.eq_ofNat_of_zero_le (show 0 ≤ x0 - 128 by omega)
      rw [hk, Int.toNat_natCast]
      by_cases hm : t.length < k
      · rw [if_pos hm]; exact gi_more_p _ x0 hx h0 k hl hn hk (by omega) (by simp; omega)
      · rw [if_neg hm]; exact gi_main_p _ x0 hx h0 k hl hn hk (by omega) (by simp; omega) hu
/-- what scoriaref01.count answers -/
def cntR (b : List Int) : Int × Nat × Int := if (cntZ b).2.2 ≠ 0 then (0, 0, (cntZ b).2.2) else cntZ b

theorem cn_bad (b : List Int) (e : Int) (he : e ≠ 0) (h66 : Ok Try.prog 66 [rowU b] (plainR (ans3 (0, 0, e)))) : Ok Try.prog 65 [rowU b, iA 1] (plainR (ans3 (0, 0, e))) :=
  Ok.run' 65 (orcC [(12, plainR (ans3 ((0), 0, e)))] [(17, .val (bA true))]) Try.func65 [pB .neq 39 (.tmp 16) (.const (.int .i64 0)) (.int .i64 (e)) (.int .i64 (0)) (bA true), Ok Try.prog 66 [rowU b] (plainR (ans3 ((0), 0, e)))] (by kernel_rfl) (allc (hNeq _ _ _ _ _ _ ((by rw [bne_iff_ne]; omega))) (allc (h66) allnil))

theorem cn_neg (b : List Int) (v : Int) (m : Nat) (h66 : Ok Try.prog 66 [rowU b] (plainR (ans3 (v, m, 0)))) (hv : v < 0) : Ok Try.prog 65 [rowU b, iA 1] (plainR (ans3 (0, 0, 2))) :=
  Ok.run' 65 (orcC [(12, plainR (ans3 ((v), m, 0)))] [(20, .val (bA true))]) Try.func65 [pB .lss 3 (.tmp 19) (.const (.int .i64 0)) (.int .i64 (v)) (.int .i64 (0)) (bA true), Ok Try.prog 66 [rowU b] (plainR (ans3 ((v), m, 0)))] (by kernel_rfl) (allc (hLss _ _ _ _ _ _ (decide_eq_true (by omega))) (allc (h66) allnil))

theorem cn_big1 (b : List Int) (v : Int) (m : Nat) (h66 : Ok Try.prog 66 [rowU b] (plainR (ans3 (v, m, 0)))) (hv : ¬ v < 0) (hv64 : I64 v) (hl : b.length ≤ 1000000000) (hm : m ≤ b.length) (h : v > b.length) : Ok Try.prog 65 [rowU b, iA 1] (plainR (ans3 (0, 0, 3))) :=
  Ok.run' 65 (orcC [(12, plainR (ans3 ((v), m, 0)))] [(20, .val (bA false)), (24, .val (bA true))]) Try.func65 [pB .gtr 3 (.tmp 21) (.tmp 23) (.int .i64 (v)) (.int .i64 ((b.length : Nat) : Int)) (bA true), pB .lss 3 (.tmp 19) (.const (.int .i64 0)) (.int .i64 (v)) (.int .i64 (0)) (bA false), Ok Try.prog 66 [rowU b] (plainR (ans3 ((v), m, 0)))] (by kernel_rfl) (allc (hGtr _ _ _ _ _ _ (decide_eq_true (by omega))) (allc (hLss _ _ _ _ _ _ (decide_eq_false (by omega))) (allc (h66) allnil)))

theorem cn_big2 (b : List Int) (v : Int) (m : Nat) (h66 : Ok Try.prog 66 [rowU b] (plainR (ans3 (v, m, 0)))) (hv : ¬ v < 0) (hv64 : I64 v) (hl : b.length ≤ 1000000000) (hm : m ≤ b.length) (h : ¬ v > b.length) (h2 : v > (b.length : Int) - m) : Ok Try.prog 65 [rowU b, iA 1] (plainR (ans3 (0, 0, 3))) :=
  Ok.run' 65 (orcC [(12, plainR (ans3 ((v), m, 0)))] [(20, .val (bA false)), (24, .val (bA false)), (28, .val (iA (v))), (32, .val (iA (((b.length : Int) - m)))), (33, .val (bA true))]) Try.func65 [pB .gtr 3 (.tmp 28) (.tmp 32) (.int .i64 (v)) (.int .i64 (((b.length : Int) - m))) (bA true), pB .sub 3 (.tmp 30) (.tmp 31) (.int .i64 ((b.length : Nat) : Int)) (.int .i64 ((m : Nat) : Int)) (iA (((b.length : Int) - m))), pB .mul 3 (.tmp 26) (.tmp 27) (.int .i64 (v)) (.int .i64 (1)) (iA (v)), pB .gtr 3 (.tmp 21) (.tmp 23) (.int .i64 (v)) (.int .i64 ((b.length : Nat) : Int)) (bA false), pB .lss 3 (.tmp 19) (.const (.int .i64 0)) (.int .i64 (v)) (.int .i64 (0)) (bA false), Ok Try.prog 66 [rowU b] (plainR (ans3 ((v), m, 0)))] (by kernel_rfl) (allc (hGtr _ _ _ _ _ _ (decide_eq_true (by omega))) (allc (hSub _ _ _ _ _ _ rfl ⟨by omega, by omega⟩) (allc (hMul _ _ _ _ _ _ (by omega) hv64) (allc (hGtr _ _ _ _ _ _ (decide_eq_false (by omega))) (allc (hLss _ _ _ _ _ _ (decide_eq_false (by omega))) (allc (h66) allnil))))))

theorem cn_ok (b : List Int) (v : Int) (m : Nat) (h66 : Ok Try.prog 66 [rowU b] (plainR (ans3 (v, m, 0)))) (hv : ¬ v < 0) (hv64 : I64 v) (hl : b.length ≤ 1000000000) (hm : m ≤ b.length) (h2 : ¬ v > (b.length : Int) - m) : Ok Try.prog 65 [rowU b, iA 1] (plainR (ans3 (v, m, 0))) :=
  Ok.run' 65 (orcC [(12, plainR (ans3 ((v), m, 0)))] [(20, .val (bA false)), (24, .val (bA false)), (28, .val (iA (v))), (32, .val (iA (((b.length : Int) - m)))), (33, .val (bA false))]) Try.func65 [pB .gtr 3 (.tmp 28) (.tmp 32) (.int .i64 (v)) (.int .i64 (((b.length : Int) - m))) (bA false), pB .sub 3 (.tmp 30) (.tmp 31) (.int .i64 ((b.length : Nat) : Int)) (.int .i64 ((m : Nat) : Int)) (iA (((b.length : Int) - m))), pB .mul 3 (.tmp 26) (.tmp 27) (.int .i64 (v)) (.int .i64 (1)) (iA (v)), pB .gtr 3 (.tmp 21) (.tmp 23) (.int .i64 (v)) (.int .i64 ((b.length : Nat) : Int)) (bA false), pB .lss 3 (.tmp 19) (.const (.int .i64 0)) (.int .i64 (v)) (.int .i64 (0)) (bA false), Ok Try.prog 66 [rowU b] (plainR (ans3 ((v), m, 0)))] (by kernel_rfl) (allc (hGtr _ _ _ _ _ _ (decide_eq_false (by omega))) (allc (hSub _ _ _ _ _ _ rfl ⟨by omega, by omega⟩) (allc (hMul _ _ _ _ _ _ (by omega) hv64) (allc (hGtr _ _ _ _ _ _ (decide_eq_false (by omega))) (allc (hLss _ _ _ _ _ _ (decide_eq_false (by omega))) (allc (h66) allnil))))))

theorem ok65 (b : List Int) (hl : b.length ≤ 1000000000) (hu : U8s b) : Ok Try.prog 65 [rowU b, iA 1] (plainR (ans3 (cntR b))) := by
  have h66 := ok66 b hl hu
  unfold cntR
  rcases getZ_form b hu with ⟨e, he, hz⟩ | ⟨v, n, hz, hn1, hn2, hn9, hv1, hv2⟩
  · rw [hz] at h66
    rw [cntZ_bad b e (by omega) hz, if_pos (by simp; omega)]
    exact cn_bad b e (by omega) h66
  · rw [hz] at h66
    by_cases hneg : v < 0
    · rw [cntZ_neg b v n hz hneg, if_pos (by simp)]; exact cn_neg b v n h66 hneg
    by_cases hbig : v > (b.length : Int) - n
    · rw [cntZ_big b v n hz hneg hbig, if_pos (by simp)]
      by_cases h1 : v > b.length
      · exact cn_big1 b v n h66 hneg ⟨by omega, by omega⟩ hl hn2 h1
      · exact cn_big2 b v n h66 hneg ⟨by omega, by omega⟩ hl hn2 h1 hbig
    · rw [cntZ_ok b v n hz hneg hbig, if_neg (by simp)]; exact cn_ok b v n h66 hneg ⟨by omega, by omega⟩ hl hn2 hbig
theorem rowU_drop (l : List Int) (m : Nat) (h : m ≤ l.length) : AV.row none 1 (l.length - m) (((l.map uA).drop (m * 1)).take ((l.length - m) * 1)) = rowU (l.drop m) := by
  unfold rowU
  rw [Nat.mul_one, Nat.mul_one, List.length_drop, ← List.map_drop, List.take_of_length_le (by simp)]

theorem gs_bad (b : List Int) (e : Int) (he : e ≠ 0) (h65 : Ok Try.prog 65 [rowU b, iA 1] (plainR (ans3 (0, 0, e)))) : Ok Try.prog 47 [rowU b] (plainR (.tup [.sc (.slice none 0 0), iA 0, iA e])) :=
  Ok.run' 47 (orcC [(15, plainR (ans3 ((0), 0, e)))] [(20, .val (bA true))]) Try.func47 [pB .neq 39 (.tmp 19) (.const (.int .i64 0)) (.int .i64 (e)) (.int .i64 (0)) (bA true), Ok Try.prog 65 [rowU b, iA (1)] (plainR (ans3 ((0), 0, e)))] (by kernel_rfl) (allc (hNeq _ _ _ _ _ _ ((by rw [bne_iff_ne]; omega))) (allc (h65) allnil))
noncomputable abbrev C47 : Code := bodyOf Try.f47
def st47 (b : List Int) (N i k : Nat) (cs : List AV) : St := { n := 47, slots := [(0, rowU b), (5, iA ((N : Nat) : Int)), (6, iA ((k : Nat) : Int)), (8, .row (some (41, 3)) 1 (i) (cs)), (9, iA ((i : Nat) : Int))], objs := [], lens := [(41, i * 1)] }
noncomputable def s47a (b : List Int) (N m0 : Nat) : St := stOf (runCode Try.prog (orcC [(15, plainR (ans3 (((N : Nat) : Int), m0, 0)))] []) (liveOf 47) 0 (Ytlekojbcaelpiaa.pre 4 C47) (start [rowU b] 47))
noncomputable def s47c (b : List Int) (N m0 : Nat) : St := { s47a b N m0 with slots := (8, .row (some (41, 3)) 1 0 []) :: (s47a b N m0).slots, lens := (41, 0) :: (s47a b N m0).lens }
noncomputable def s47b (b : List Int) (N m0 : Nat) : St := stOf (runCode Try.prog (orc []) (liveOf 47) 0 (fR (post 4 C47)) (s47c b N m0))
theorem gs_ok (b : List Int) (N m0 : Nat) (hl : b.length ≤ 90000000) (hu : U8s b) (hN : N + m0 ≤ b.length) (h65 : Ok Try.prog 65 [rowU b, iA 1] (plainR (ans3 ((N : Int), m0, 0)))) :
    Ok Try.prog 47 [rowU b] { v := .tup [rowI (rdZ b N m0 []).2.1, iA ((rdZ b N m0 []).2.2 : Nat), iA (rdZ b N m0 []).1], own := some 3 } := by
  refine Ok.judgW Try.func47 (c := C47) rfl (by simp [Try.ntmps47]) ?_
  refine Judg.pre' 47 (orcC [(15, plainR (ans3 (((N : Nat) : Int), m0, 0)))] []) 4 (s47a b N m0) [Ok Try.prog 65 [rowU b, iA (1)] (plainR (ans3 (((N : Nat) : Int), m0, 0)))] (by kernel_rfl) (by kernel_rfl) (allc (h65) allnil) ?_
  refine Judg.nilSlot 8 41 3 1 (by kernel_rfl) (by kernel_rfl) ?_
  refine Judg.for_ (ι := Nat × Nat × List Int) [0, 5, 6, 8, 9] [41] (fun p => st47 b N p.1 p.2.1 (p.2.2.map iA)) (fun p => N - p.1) (fun p => p.1 ≤ N ∧ p.2.1 ≤ b.length ∧ p.2.2.length = p.1 ∧ rdZ b (N - p.1) p.2.1 p.2.2 = rdZ b N m0 []) (by kernel_rfl) (orc []) (liveOf 47) (s1 := s47b b N m0) (by kernel_rfl)
    (by rw [show (s47b b N m0).log = [Ok Try.prog 65 [rowU b, iA (1)] (plainR (ans3 (((N : Nat) : Int), m0, 0)))] by kernel_rfl]; exact (allc (h65) allnil)) (0, m0, []) ⟨by simp, by simp; omega, rfl, rfl⟩ (by kernel_rfl) ?_
  rintro ⟨i, k, acc⟩ ⟨h1, h2, h3, h4⟩
  simp only at h1 h2 h3 h4 ⊢
  by_cases hi : i < N
  · have h66 := ok66 (b.drop k) (by simp; omega) (hu.drop k)
    obtain ⟨x, m, e, hz, hm, he⟩ := getZ_bound (b.drop k) (hu.drop k)
    rw [hz] at h66
    obtain ⟨j, hj⟩ : ∃ j, N - i = j + 1 := ⟨N - i - 1, by omega⟩
    rw [hj] at h4
    by_cases he0 : e = 0
    · subst he0
      rw [rdZ_ok b j k acc x m hz] at h4
      generalize hcs : acc.map iA = cs
      have hm' : m ≤ b.length - k := by simpa using hm
      refine Judg.run' 47 (orcC [(31, plainR (ans3 (x, m, 0)))] [(24, .val (bA true)), (30, .val (rowU (b.drop k))), (41, .grow 41 3 1 (i) (cs) (1) ([iA (x)])), (44, .val (iA ((k + m : Nat) : Int))), (26, .val (iA ((i + 1 : Nat) : Int)))]) (.go (stOf (runCode Try.prog (orcC [(31, plainR (ans3 (x, m, 0)))] [(24, .val (bA true)), (30, .val (rowU (b.drop k))), (41, .grow 41 3 1 (i) (cs) (1) ([iA (x)])), (44, .val (iA ((k + m : Nat) : Int))), (26, .val (iA ((i + 1 : Nat) : Int)))]) (liveOf 47) 0 (fB (post 4 C47)) (st47 b N i k cs)))) [pB .add 3 (.tmp 25) (.const (.int .i64 1)) (.int .i64 ((i : Nat) : Int)) (.int .i64 (1)) (iA ((i + 1 : Nat) : Int)), pB .add 3 (.tmp 42) (.tmp 43) (.int .i64 ((k : Nat) : Int)) (.int .i64 ((m : Nat) : Int)) (iA ((k + m : Nat) : Int)), cmdAppend Try.prog 22 22 (.row (some (41, 3)) 1 (i) (cs)) (.row (some (40, 3)) 1 (1) ([iA (x)])) = some (.grow 41 3 1 (i) (cs) (1) ([iA (x)])), i * 1 = i * 1, Ok Try.prog 66 [rowU (b.drop k)] (plainR (ans3 (x, m, 0))), cmdSlice Try.prog 34 (rowU b) (some (iA ((k : Nat) : Int))) none none = some (.val (rowU (b.drop k))), pB .lss 3 (.tmp 22) (.tmp 23) (.int .i64 ((i : Nat) : Int)) (.int .i64 ((N : Nat) : Int)) (bA true)] (by kernel_rfl) (by kernel_rfl) (allc (hAdd _ _ _ _ _ _ (by simp) ⟨by omega, by omega⟩) (allc (hAdd _ _ _ _ _ _ (by simp) ⟨by omega, by omega⟩) (allc (el22.grow (rowOf_row _ _ _ _) (fits_of (by simp <;> omega) (by omega))) (allc (rfl) (allc (h66) (allc (by rw [← rowU_drop b k (by omega)]; exact el34.slLo (rowOf_row _ _ _ _) (by omega)) (allc (hLss _ _ _ _ _ _ (decide_eq_true (by omega))) allnil))))))) ⟨(i + 1, k + m, acc ++ [x]), ⟨by simp; omega, by simp; omega, by simp [h3], ?_⟩, by simp; omega, ?_⟩
      · simp only; rw [show N - (i + 1) = j by omega]; exact h4
      · simp only [List.map_append, hcs]
        kernel_rfl
    · rw [rdZ_bad b j k acc x m e hz he0] at h4
      rw [← h4]
      generalize acc.map iA = cs
      refine Judg.run' 47 (orcC [(31, plainR (ans3 (x, m, e)))] [(24, .val (bA true)), (30, .val (rowU (b.drop k))), (36, .val (bA true))]) (.ret (stOf (runCode Try.prog (orcC [(31, plainR (ans3 (x, m, e)))] [(24, .val (bA true)), (30, .val (rowU (b.drop k))), (36, .val (bA true))]) (liveOf 47) 0 (fB (post 4 C47)) (st47 b N i k cs)))) [pB .neq 39 (.tmp 35) (.const (.int .i64 0)) (.int .i64 (e)) (.int .i64 (0)) (bA true), Ok Try.prog 66 [rowU (b.drop k)] (plainR (ans3 (x, m, e))), cmdSlice Try.prog 34 (rowU b) (some (iA ((k : Nat) : Int))) none none = some (.val (rowU (b.drop k))), pB .lss 3 (.tmp 22) (.tmp 23) (.int .i64 ((i : Nat) : Int)) (.int .i64 ((N : Nat) : Int)) (bA true)] (by kernel_rfl) (by kernel_rfl) (allc (hNeq _ _ _ _ _ _ ((by rw [bne_iff_ne]; omega))) (allc (h66) (allc (by rw [← rowU_drop b k (by omega)]; exact el34.slLo (rowOf_row _ _ _ _) (by omega)) (allc (hLss _ _ _ _ _ _ (decide_eq_true (by omega))) allnil)))) ?_
      exact fin_retW (l := []) _ (by kernel_rfl) allnil ResImp.nilTup
  · obtain rfl : i = N := by omega
    rw [Nat.sub_self] at h4
    rw [show rdZ b 0 k acc = (0, acc, k) from rfl] at h4
    rw [← h4]
    have hr : rowI acc = .row none 1 i (acc.map iA) := by unfold rowI; rw [h3]
    simp only [hr]
    generalize acc.map iA = cs
    refine Judg.run' 47 (orc [(24, .val (bA false))]) (.exit 0 (stOf (runCode Try.prog (orc [(24, .val (bA false))]) (liveOf 47) 0 (fB (post 4 C47)) (st47 b i i k cs)))) [pB .lss 3 (.tmp 22) (.tmp 23) (.int .i64 ((i : Nat) : Int)) (.int .i64 ((i : Nat) : Int)) (bA false)] (by kernel_rfl) (by kernel_rfl) (allc (hLss _ _ _ _ _ _ (decide_eq_false (by omega))) allnil) ?_
    show Judg (fK (post 4 C47)) _ _
    refine Judg.run' 47 (orc []) (.ret (stOf (runCode Try.prog (orc []) (liveOf 47) 0 (fK (post 4 C47)) ((stOf (runCode Try.prog (orc [(24, .val (bA false))]) (liveOf 47) 0 (fB (post 4 C47)) (st47 b i i k cs))))))) [pB .lss 3 (.tmp 22) (.tmp 23) (.int .i64 ((i : Nat) : Int)) (.int .i64 ((i : Nat) : Int)) (bA false)] (by kernel_rfl) (by kernel_rfl) (allc (hLss _ _ _ _ _ _ (decide_eq_false (by omega))) allnil) ?_
    exact fin_retW (l := [i * 1 = i * 1]) _ (by kernel_rfl) (all1 rfl) (ResImp.refl _)
theorem ok47 (b : List Int) (hl : b.length ≤ 90000000) (hu : U8s b) : Ok Try.prog 47 [rowU b] (getsRes b) := by
  have h65 := ok65 b (by omega) hu
  unfold cntR at h65
  unfold getsRes
  rcases cntZ_form b hu with ⟨v, m, e, hc, he⟩ | ⟨N, m, hc, hN⟩
  · rw [getsZ_bad b v m e hc (by omega)]
    rw [hc, if_pos (by simp; omega)] at h65
    exact (gs_bad b e (by omega) h65).imp ResImp.nilTup
  · rw [getsZ_ok b N m hc]
    rw [hc, if_neg (by simp)] at h65
    exact gs_ok b N m hl hu hN h65
end Go.Proofs.Ytlekojbcaelpiaa

/- scoriaref38.Decode. -/
namespace Go.Proofs.Ytlekojbcaelpiaa
open Go.RowKit
theorem hRem (t : TypeId) (x y : Operand) (a b c : Int) (hb : b ≠ 0) (h : a.tmod b = c) (hc : I64 c) : pB .rem t x y (.int .i64 a) (.int .i64 b) (iA c) := by
  subst h
  have e : peek Try.prog (do eqGuard .rem t x y (.int .i64 a) (.int .i64 b); binOp .rem t (.int .i64 a) (.int .i64 b)) = peek Try.prog (Op.intDiv .rem .i64 a b) := rfl
  unfold pB
  rw [e]
  simp only [Op.intDiv]
  rw [peek_ite]
  simp [hb, peek_pure, wrap_id hc, iA]
def evs3 : List Int → List Ev
  | p :: k :: n :: r => ⟨p, k, n⟩ :: evs3 r
  | _ => []
theorem evs3_at : ∀ (l : List Int) (j : Nat) (p k n : Int), l[3 * j]? = some p → l[3 * j + 1]? = some k → l[3 * j + 2]? = some n → (evs3 l)[j]? = some ⟨p, k, n⟩
  | [], j, p, k, n, h, _, _ => by simp at h
  | [a], j, p, k, n, _, h, _ => by simp at h
  | [a, b], j, p, k, n, _, _, h => by simp at h
  | a :: b :: c :: l, 0, p, k, n, h1, h2, h3 => by
    simp at h1 h2 h3; subst h1; subst h2; subst h3; rfl
  | a :: b :: c :: l, j + 1, p, k, n, h1, h2, h3 => by
    rw [show 3 * (j + 1) = 3 * j + 1 + 1 + 1 by omega] at h1 h2 h3
    simp only [evs3, List.getElem?_cons_succ]
    exact evs3_at l j p k n (by simpa using h1) (by simpa using h2) (by simpa using h3)
theorem evs3_length : ∀ (l : List Int), (evs3 l).length = l.length / 3
  | [] => rfl
  | [a] => by simp [evs3]
  | [a, b] => by simp [evs3]
  | a :: b :: c :: l => by simp only [evs3, List.length_cons, evs3_length l]; omega
theorem nums_evs3 : ∀ (l : List Int), I64s l → I64s (nums (evs3 l))
  | [], _ => by intro x hx; simp [evs3, nums] at hx
  | [a], _ => by intro x hx; simp [evs3, nums] at hx
  | [a, b], _ => by intro x hx; simp [evs3, nums] at hx
  | a :: b :: c :: l, h => by
    intro x hx
    simp only [evs3, nums, List.flatMap_cons, nums3, List.mem_append] at hx
    rcases hx with hx | hx
    · exact h x (by simp only [List.mem_cons, List.not_mem_nil, or_false] at hx ⊢; rcases hx with rfl | rfl | rfl <;> simp)
    · exact nums_evs3 l (fun y hy => h y (by simp [hy])) x hx
theorem rdZ_form (b : List Int) (hu : U8s b) : ∀ (j k : Nat) (acc : List Int), k ≤ b.length → I64s acc → (∃ e, (e = 2 ∨ e = 3) ∧ rdZ b j k acc = (e, [], 0)) ∨ ∃ l n, rdZ b j k acc = (0, l, n) ∧ n ≤ b.length ∧ l.length = acc.length + j ∧ I64s l
  | 0, k, acc, hk, ha => .inr ⟨acc, k, rfl, hk, rfl, ha⟩
  | j + 1, k, acc, hk, ha => by
    rcases getZ_form (b.drop k) (hu.drop k) with ⟨e, he, hz⟩ | ⟨v, m, hz, h1, h2, h3, h4, h5⟩
    · exact .inl ⟨e, he, rdZ_bad b j k acc 0 0 e hz (by omega)⟩
    · rw [rdZ_ok b j k acc v m hz]
      have h2' : m ≤ b.length - k := by simpa using h2
      rcases rdZ_form b hu j (k + m) (acc ++ [v]) (by omega) (fun x hx => by
        rcases List.mem_append.1 hx with hx | hx
        · exact ha x hx
        · rw [List.mem_singleton.1 hx]; exact ⟨h4, by omega⟩) with h | ⟨l, n, q1, q2, q3, q4⟩
      · exact .inl h
      · exact .inr ⟨l, n, q1, q2, by rw [q3]; simp; omega, q4⟩
theorem getsZ_form (b : List Int) (hu : U8s b) : (∃ e, (e = 2 ∨ e = 3) ∧ getsZ b = (e, [], 0)) ∨ ∃ l n, getsZ b = (0, l, n) ∧ n ≤ b.length ∧ l.length ≤ b.length ∧ I64s l := by
  rcases cntZ_form b hu with ⟨v, m, e, hc, he⟩ | ⟨N, m, hc, hN⟩
  · exact .inl ⟨e, he, getsZ_bad b v m e hc (by omega)⟩
  · rw [getsZ_ok b N m hc]
    rcases rdZ_form b hu (N : Int).toNat m [] (by omega) (fun x hx => by cases hx) with h | ⟨l, n, q1, q2, q3, q4⟩
    · exact .inl h
    · exact .inr ⟨l, n, q1, q2, by simp at q3; omega, q4⟩
def gRes (e : Int) (l : List Int) (n : Nat) : Res := { v := .tup [rowI l, iA (n : Nat), iA e], own := some 3 }
/-- what scoriaref38.Decode answers -/
def decR (b : List Int) : Option (Rp × Nat) :=
  if (getsZ b).1 ≠ 0 then none else
  match (getsZ b).2.1 with
  | [a0, a1, a2, a3] =>
    if (getsZ (b.drop (getsZ b).2.2)).1 ≠ 0 then none else
    if (getsZ (b.drop ((getsZ b).2.2 + (getsZ (b.drop (getsZ b).2.2)).2.2))).1 ≠ 0 then none else
    if (getsZ (b.drop ((getsZ b).2.2 + (getsZ (b.drop (getsZ b).2.2)).2.2))).2.1.length % 3 ≠ 0 then none else
    if a2 ≠ 0 ∧ a2 ≠ 1 then none else
    if validB ⟨a0, a1, (getsZ (b.drop (getsZ b).2.2)).2.1, evs3 (getsZ (b.drop ((getsZ b).2.2 + (getsZ (b.drop (getsZ b).2.2)).2.2))).2.1, decide (a2 = 1), a3⟩ = true then
      some (⟨a0, a1, (getsZ (b.drop (getsZ b).2.2)).2.1, evs3 (getsZ (b.drop ((getsZ b).2.2 + (getsZ (b.drop (getsZ b).2.2)).2.2))).2.1, decide (a2 = 1), a3⟩, (getsZ b).2.2 + (getsZ (b.drop (getsZ b).2.2)).2.2 + (getsZ (b.drop ((getsZ b).2.2 + (getsZ (b.drop (getsZ b).2.2)).2.2))).2.2)
    else none
  | _ => none
def rp0 : Rp := ⟨0, 0, [], [], false, 0⟩
def decA : Option (Rp × Nat) → AV
  | none => .tup [rpA rp0, iA 0, iA 2]
  | some p => .tup [rpA p.1, iA (p.2 : Nat), iA 0]
def zeroA : AV := .sc (.agg #[.int .i64 0, .int .i64 0, .slice none 0 0, .slice none 0 0, .bool false, .int .i64 0])
theorem V_zero {pr : Nat → Nat → Prop} {w : World} {c : Value} (h : V pr w c zeroA) : V pr w c (rpA rp0) := by
  have hc : c = .agg #[.int .i64 0, .int .i64 0, .slice none 0 0, .slice none 0 0, .bool false, .int .i64 0] := h
  subst hc
  have nl : ∀ size, V pr w (.slice none 0 0) (.row none size 0 []) := fun size => ⟨none, 0, rfl, Nat.le_refl _, by simp [maxLen], by simp, fun h => absurd h (by omega)⟩
  exact ⟨[_, _, _, _, _, _], rfl, by intro u hu; simp only [List.mem_cons, List.not_mem_nil, or_false] at hu; rcases hu with rfl | rfl | rfl | rfl | rfl | rfl <;> rfl, _, _, rfl, rfl, _, _, rfl, rfl, _, _, rfl, nl 1, _, _, rfl, nl 3, _, _, rfl, rfl, _, _, rfl, rfl, rfl⟩
theorem ResImp.zeroTup {xs : List AV} : ResImp (plainR (.tup (zeroA :: xs))) (plainR (.tup (rpA rp0 :: xs))) := fun B pr w c h _ => by
  obtain ⟨cs, rfl, h⟩ := h
  obtain ⟨c0, cs', rfl, h0, h1⟩ := h
  exact ⟨⟨_, rfl, _, _, rfl, V_zero h0, h1⟩, fun e he => by cases he⟩

theorem de_a (b : List Int) (e : Int) (he : e ≠ 0) (h1 : Ok Try.prog 47 [rowU b] (gRes e [] 0)) : Ok Try.prog 22 [rowU b] (plainR (.tup [zeroA, iA 0, iA 2])) :=
  Ok.run' 22 (orcC [(18, gRes e [] 0)] [(23, .val (bA true))]) Try.func22 [pB .neq 39 (.tmp 22) (.const (.int .i64 0)) (.int .i64 (e)) (.int .i64 (0)) (bA true), Ok Try.prog 47 [rowU b] (gRes e [] 0)] (by kernel_rfl) (allc (hNeq _ _ _ _ _ _ ((by rw [bne_iff_ne]; omega))) (allc (h1) allnil))

theorem de_b (b : List Int) (l1 : List Int) (n1 : Nat) (hl : l1.length ≠ 4) (h1 : Ok Try.prog 47 [rowU b] (gRes 0 l1 n1)) : Ok Try.prog 22 [rowU b] (plainR (.tup [zeroA, iA 0, iA 2])) :=
  Ok.run' 22 (orcC [(18, gRes 0 l1 n1)] [(27, .val (bA true))]) Try.func22 [pB .neq 3 (.tmp 26) (.const (.int .i64 4)) (.int .i64 ((l1.length : Nat) : Int)) (.int .i64 (4)) (bA true), Ok Try.prog 47 [rowU b] (gRes 0 l1 n1)] (by kernel_rfl) (allc (hNeq _ _ _ _ _ _ ((by rw [bne_iff_ne]; omega))) (allc (h1) allnil))

theorem de_c (b : List Int) (a0 a1 a2 a3 : Int) (n1 : Nat) (h1 : Ok Try.prog 47 [rowU b] (gRes 0 [a0, a1, a2, a3] n1)) (hn1 : n1 ≤ b.length) (e : Int) (he : e ≠ 0) (h2 : Ok Try.prog 47 [rowU (b.drop n1)] (gRes e [] 0)) : Ok Try.prog 22 [rowU b] (plainR (.tup [zeroA, iA 0, iA 2])) :=
  Ok.run' 22 (orcC [(18, gRes 0 [a0, a1, a2, a3] n1), (34, gRes e [] 0)] [(33, .val (rowU (b.drop n1))), (39, .val (bA true))]) Try.func22 [pB .neq 39 (.tmp 38) (.const (.int .i64 0)) (.int .i64 (e)) (.int .i64 (0)) (bA true), Ok Try.prog 47 [rowU (b.drop n1)] (gRes e [] 0), cmdSlice Try.prog 34 (rowU b) (some (iA ((n1 : Nat) : Int))) none none = some (.val (rowU (b.drop n1))), Ok Try.prog 47 [rowU b] (gRes 0 [a0, a1, a2, a3] n1)] (by kernel_rfl) (allc (hNeq _ _ _ _ _ _ ((by rw [bne_iff_ne]; omega))) (allc (h2) (allc (by rw [← rowU_drop b n1 (by omega)]; exact el34.slLo (rowOf_row _ _ _ _) (by omega)) (allc (h1) allnil))))

theorem de_d (b : List Int) (a0 a1 a2 a3 : Int) (n1 : Nat) (h1 : Ok Try.prog 47 [rowU b] (gRes 0 [a0, a1, a2, a3] n1)) (hn1 : n1 ≤ b.length) (l2 : List Int) (n2 : Nat) (h2 : Ok Try.prog 47 [rowU (b.drop n1)] (gRes 0 l2 n2)) (hb : b.length ≤ 900000) (hn2 : n1 + n2 ≤ b.length) (e : Int) (he : e ≠ 0) (h3 : Ok Try.prog 47 [rowU (b.drop (n1 + n2))] (gRes e [] 0)) : Ok Try.prog 22 [rowU b] (plainR (.tup [zeroA, iA 0, iA 2])) :=
  Ok.run' 22 (orcC [(18, gRes 0 [a0, a1, a2, a3] n1), (34, gRes 0 l2 n2), (48, gRes e [] 0)] [(33, .val (rowU (b.drop n1))), (43, .val (iA ((n1 + n2 : Nat) : Int))), (47, .val (rowU (b.drop (n1 + n2)))), (53, .val (bA true))]) Try.func22 [pB .neq 39 (.tmp 52) (.const (.int .i64 0)) (.int .i64 (e)) (.int .i64 (0)) (bA true), Ok Try.prog 47 [rowU (b.drop (n1 + n2))] (gRes e [] 0), cmdSlice Try.prog 34 (rowU b) (some (iA ((n1 + n2 : Nat) : Int))) none none = some (.val (rowU (b.drop (n1 + n2)))), pB .add 3 (.tmp 41) (.tmp 42) (.int .i64 ((n1 : Nat) : Int)) (.int .i64 ((n2 : Nat) : Int)) (iA ((n1 + n2 : Nat) : Int)), Ok Try.prog 47 [rowU (b.drop n1)] (gRes 0 l2 n2), cmdSlice Try.prog 34 (rowU b) (some (iA ((n1 : Nat) : Int))) none none = some (.val (rowU (b.drop n1))), Ok Try.prog 47 [rowU b] (gRes 0 [a0, a1, a2, a3] n1)] (by kernel_rfl) (allc (hNeq _ _ _ _ _ _ ((by rw [bne_iff_ne]; omega))) (allc (h3) (allc (by rw [← rowU_drop b (n1 + n2) (by omega)]; exact el34.slLo (rowOf_row _ _ _ _) (by omega)) (allc (hAdd _ _ _ _ _ _ (by simp) ⟨by omega, by omega⟩) (allc (h2) (allc (by rw [← rowU_drop b n1 (by omega)]; exact el34.slLo (rowOf_row _ _ _ _) (by omega)) (allc (h1) allnil)))))))

theorem de_e (b : List Int) (a0 a1 a2 a3 : Int) (n1 : Nat) (h1 : Ok Try.prog 47 [rowU b] (gRes 0 [a0, a1, a2, a3] n1)) (hn1 : n1 ≤ b.length) (l2 : List Int) (n2 : Nat) (h2 : Ok Try.prog 47 [rowU (b.drop n1)] (gRes 0 l2 n2)) (hb : b.length ≤ 900000) (hn2 : n1 + n2 ≤ b.length) (l3 : List Int) (n3 : Nat) (h3 : Ok Try.prog 47 [rowU (b.drop (n1 + n2))] (gRes 0 l3 n3)) (hn3 : n1 + n2 + n3 ≤ b.length) (hl3 : l3.length ≤ b.length) (h : l3.length % 3 ≠ 0) : Ok Try.prog 22 [rowU b] (plainR (.tup [zeroA, iA 0, iA 2])) :=
  Ok.run' 22 (orcC [(18, gRes 0 [a0, a1, a2, a3] n1), (34, gRes 0 l2 n2), (48, gRes 0 l3 n3)] [(33, .val (rowU (b.drop n1))), (43, .val (iA ((n1 + n2 : Nat) : Int))), (47, .val (rowU (b.drop (n1 + n2)))), (57, .val (iA ((l3.length % 3 : Nat) : Int))), (58, .val (bA true))]) Try.func22 [pB .neq 3 (.tmp 57) (.const (.int .i64 0)) (.int .i64 ((l3.length % 3 : Nat) : Int)) (.int .i64 (0)) (bA true), pB .rem 3 (.tmp 56) (.const (.int .i64 3)) (.int .i64 ((l3.length : Nat) : Int)) (.int .i64 (3)) (iA ((l3.length % 3 : Nat) : Int)), Ok Try.prog 47 [rowU (b.drop (n1 + n2))] (gRes 0 l3 n3), cmdSlice Try.prog 34 (rowU b) (some (iA ((n1 + n2 : Nat) : Int))) none none = some (.val (rowU (b.drop (n1 + n2)))), pB .add 3 (.tmp 41) (.tmp 42) (.int .i64 ((n1 : Nat) : Int)) (.int .i64 ((n2 : Nat) : Int)) (iA ((n1 + n2 : Nat) : Int)), Ok Try.prog 47 [rowU (b.drop n1)] (gRes 0 l2 n2), cmdSlice Try.prog 34 (rowU b) (some (iA ((n1 : Nat) : Int))) none none = some (.val (rowU (b.drop n1))), Ok Try.prog 47 [rowU b] (gRes 0 [a0, a1, a2, a3] n1)] (by kernel_rfl) (allc (hNeq _ _ _ _ _ _ ((by rw [bne_iff_ne]; omega))) (allc (hRem _ _ _ _ _ _ (by omega) (by rw [Int.tmod_eq_emod_of_nonneg (by omega)]; omega) ⟨by omega, by omega⟩) (allc (h3) (allc (by rw [← rowU_drop b (n1 + n2) (by omega)]; exact el34.slLo (rowOf_row _ _ _ _) (by omega)) (allc (hAdd _ _ _ _ _ _ (by simp) ⟨by omega, by omega⟩) (allc (h2) (allc (by rw [← rowU_drop b n1 (by omega)]; exact el34.slLo (rowOf_row _ _ _ _) (by omega)) (allc (h1) allnil))))))))

theorem de_f (b : List Int) (a0 a1 a2 a3 : Int) (n1 : Nat) (h1 : Ok Try.prog 47 [rowU b] (gRes 0 [a0, a1, a2, a3] n1)) (hn1 : n1 ≤ b.length) (l2 : List Int) (n2 : Nat) (h2 : Ok Try.prog 47 [rowU (b.drop n1)] (gRes 0 l2 n2)) (hb : b.length ≤ 900000) (hn2 : n1 + n2 ≤ b.length) (l3 : List Int) (n3 : Nat) (h3 : Ok Try.prog 47 [rowU (b.drop (n1 + n2))] (gRes 0 l3 n3)) (hn3 : n1 + n2 + n3 ≤ b.length) (hl3 : l3.length ≤ b.length) (h : l3.length % 3 = 0) (ha : a2 ≠ 0) (ha2 : a2 ≠ 1) : Ok Try.prog 22 [rowU b] (plainR (.tup [zeroA, iA 0, iA 2])) :=
  Ok.run' 22 (orcC [(18, gRes 0 [a0, a1, a2, a3] n1), (34, gRes 0 l2 n2), (48, gRes 0 l3 n3)] [(33, .val (rowU (b.drop n1))), (43, .val (iA ((n1 + n2 : Nat) : Int))), (47, .val (rowU (b.drop (n1 + n2)))), (57, .val (iA ((l3.length % 3 : Nat) : Int))), (58, .val (bA false)), (64, .val (bA true)), (69, .val (bA true))]) Try.func22 [pB .neq 3 (.tmp 68) (.const (.int .i64 1)) (.int .i64 (a2)) (.int .i64 (1)) (bA true), pB .neq 3 (.tmp 63) (.const (.int .i64 0)) (.int .i64 (a2)) (.int .i64 (0)) (bA true), pB .neq 3 (.tmp 57) (.const (.int .i64 0)) (.int .i64 ((l3.length % 3 : Nat) : Int)) (.int .i64 (0)) (bA false), pB .rem 3 (.tmp 56) (.const (.int .i64 3)) (.int .i64 ((l3.length : Nat) : Int)) (.int .i64 (3)) (iA ((l3.length % 3 : Nat) : Int)), Ok Try.prog 47 [rowU (b.drop (n1 + n2))] (gRes 0 l3 n3), cmdSlice Try.prog 34 (rowU b) (some (iA ((n1 + n2 : Nat) : Int))) none none = some (.val (rowU (b.drop (n1 + n2)))), pB .add 3 (.tmp 41) (.tmp 42) (.int .i64 ((n1 : Nat) : Int)) (.int .i64 ((n2 : Nat) : Int)) (iA ((n1 + n2 : Nat) : Int)), Ok Try.prog 47 [rowU (b.drop n1)] (gRes 0 l2 n2), cmdSlice Try.prog 34 (rowU b) (some (iA ((n1 : Nat) : Int))) none none = some (.val (rowU (b.drop n1))), Ok Try.prog 47 [rowU b] (gRes 0 [a0, a1, a2, a3] n1)] (by kernel_rfl) (allc (hNeq _ _ _ _ _ _ ((by rw [bne_iff_ne]; omega))) (allc (hNeq _ _ _ _ _ _ ((by rw [bne_iff_ne]; omega))) (allc (hNeq _ _ _ _ _ _ ((by rw [bne_eq_false_iff_eq]; omega))) (allc (hRem _ _ _ _ _ _ (by omega) (by rw [Int.tmod_eq_emod_of_nonneg (by omega)]; omega) ⟨by omega, by omega⟩) (allc (h3) (allc (by rw [← rowU_drop b (n1 + n2) (by omega)]; exact el34.slLo (rowOf_row _ _ _ _) (by omega)) (allc (hAdd _ _ _ _ _ _ (by simp) ⟨by omega, by omega⟩) (allc (h2) (allc (by rw [← rowU_drop b n1 (by omega)]; exact el34.slLo (rowOf_row _ _ _ _) (by omega)) (allc (h1) allnil))))))))))

noncomputable abbrev C22 : Code := bodyOf Try.f22
def st22 (a0 a1 a3 : Int) (n1 n2 n3 : Nat) (l2 l3 : List Int) (cu : Bool) (j : Nat) (cs : List AV) : St := { n := 123, slots := [(2, .ptr 2 0), (6, iA ((n1 + n2 : Nat) : Int)), (11, rowI l3), (12, iA ((n3 : Nat) : Int)), (14, .ptr 14 0), (15, iA ((3 * j : Nat) : Int))], objs := [(2, (25, [iA (0), iA (0), .sc (.slice none 0 0), .sc (.slice none 0 0), bA false, iA (0)])), (14, (25, [iA (a0), iA (a1), rowI l2, .row (some (113, 71)) 3 (j) (cs), bA (cu), iA (a3)]))], lens := [(113, j * 3)] }
noncomputable def s22a0 (b : List Int) (a0 a1 a3 : Int) (n1 n2 n3 : Nat) (l2 l3 : List Int) : St := stOf (runCode Try.prog (orcC [(18, gRes 0 [a0, a1, 0, a3] n1), (34, gRes 0 l2 n2), (48, gRes 0 l3 n3)] [(33, .val (rowU (b.drop n1))), (43, .val (iA ((n1 + n2 : Nat) : Int))), (47, .val (rowU (b.drop (n1 + n2)))), (57, .val (iA ((l3.length % 3 : Nat) : Int))), (58, .val (bA false))]) (liveOf 22) 0 (Ytlekojbcaelpiaa.pre 9 C22) (start [rowU b] 123))
noncomputable def s22c0 (b : List Int) (a0 a1 a3 : Int) (n1 n2 n3 : Nat) (l2 l3 : List Int) : St := { s22a0 b a0 a1 a3 n1 n2 n3 l2 l3 with objs := (14, (25, [iA (a0), iA (a1), rowI l2, .row (some (113, 71)) 3 0 [], bA false, iA (a3)])) :: (s22a0 b a0 a1 a3 n1 n2 n3 l2 l3).objs, lens := (113, 0) :: (s22a0 b a0 a1 a3 n1 n2 n3 l2 l3).lens }
noncomputable def s22b0 (b : List Int) (a0 a1 a3 : Int) (n1 n2 n3 : Nat) (l2 l3 : List Int) : St := stOf (runCode Try.prog (orc []) (liveOf 22) 0 (fR (post 9 C22)) (s22c0 b a0 a1 a3 n1 n2 n3 l2 l3))
theorem de_g0 (b : List Int) (a0 a1 a3 : Int) (n1 : Nat) (h1 : Ok Try.prog 47 [rowU b] (gRes 0 [a0, a1, 0, a3] n1)) (hn1 : n1 ≤ b.length) (l2 : List Int) (n2 : Nat) (h2 : Ok Try.prog 47 [rowU (b.drop n1)] (gRes 0 l2 n2)) (hb : b.length ≤ 900000) (hn2 : n1 + n2 ≤ b.length) (l3 : List Int) (n3 : Nat) (h3 : Ok Try.prog 47 [rowU (b.drop (n1 + n2))] (gRes 0 l3 n3)) (hn3 : n1 + n2 + n3 ≤ b.length) (hl3 : l3.length ≤ b.length) (h : l3.length % 3 = 0) (ok12' : Ok Try.prog 12 [rpA ⟨a0, a1, l2, evs3 l3, false, a3⟩] (plainR (bA (validB ⟨a0, a1, l2, evs3 l3, false, a3⟩)))) : Ok Try.prog 22 [rowU b] (plainR (decA (if validB ⟨a0, a1, l2, evs3 l3, false, a3⟩ = true then some (⟨a0, a1, l2, evs3 l3, false, a3⟩, n1 + n2 + n3) else none))) := by
  refine Ok.judgW Try.func22 (c := C22) rfl (by simp [Try.ntmps22]) ?_
  refine Judg.pre' 22 (orcC [(18, gRes 0 [a0, a1, 0, a3] n1), (34, gRes 0 l2 n2), (48, gRes 0 l3 n3)] [(33, .val (rowU (b.drop n1))), (43, .val (iA ((n1 + n2 : Nat) : Int))), (47, .val (rowU (b.drop (n1 + n2)))), (57, .val (iA ((l3.length % 3 : Nat) : Int))), (58, .val (bA false))]) 9 (s22a0 b a0 a1 a3 n1 n2 n3 l2 l3) [pB .neq 3 (.tmp 57) (.const (.int .i64 0)) (.int .i64 ((l3.length % 3 : Nat) : Int)) (.int .i64 (0)) (bA false), pB .rem 3 (.tmp 56) (.const (.int .i64 3)) (.int .i64 ((l3.length : Nat) : Int)) (.int .i64 (3)) (iA ((l3.length % 3 : Nat) : Int)), Ok Try.prog 47 [rowU (b.drop (n1 + n2))] (gRes 0 l3 n3), cmdSlice Try.prog 34 (rowU b) (some (iA ((n1 + n2 : Nat) : Int))) none none = some (.val (rowU (b.drop (n1 + n2)))), pB .add 3 (.tmp 41) (.tmp 42) (.int .i64 ((n1 : Nat) : Int)) (.int .i64 ((n2 : Nat) : Int)) (iA ((n1 + n2 : Nat) : Int)), Ok Try.prog 47 [rowU (b.drop n1)] (gRes 0 l2 n2), cmdSlice Try.prog 34 (rowU b) (some (iA ((n1 : Nat) : Int))) none none = some (.val (rowU (b.drop n1))), Ok Try.prog 47 [rowU b] (gRes 0 [a0, a1, 0, a3] n1)] (by kernel_rfl) (by kernel_rfl) (allc (hNeq _ _ _ _ _ _ ((by rw [bne_eq_false_iff_eq]; omega))) (allc (hRem _ _ _ _ _ _ (by omega) (by rw [Int.tmod_eq_emod_of_nonneg (by omega)]; omega) ⟨by omega, by omega⟩) (allc (h3) (allc (by rw [← rowU_drop b (n1 + n2) (by omega)]; exact el34.slLo (rowOf_row _ _ _ _) (by omega)) (allc (hAdd _ _ _ _ _ _ (by simp) ⟨by omega, by omega⟩) (allc (h2) (allc (by rw [← rowU_drop b n1 (by omega)]; exact el34.slLo (rowOf_row _ _ _ _) (by omega)) (allc (h1) allnil)))))))) ?_
  refine Judg.nilCell 14 3 113 71 3 (ty := 25) (xs := [iA (a0), iA (a1), rowI l2, .sc (.slice none 0 0), bA false, iA (a3)]) (by kernel_rfl) rfl (by kernel_rfl) ?_
  refine Judg.for_ (ι := Nat) [2, 6, 11, 12, 14, 15] [2, 14, 113] (fun j => st22 a0 a1 a3 n1 n2 n3 l2 l3 false j (evA ((evs3 l3).take j))) (fun j => (evs3 l3).length - j) (fun j => j ≤ (evs3 l3).length) (by kernel_rfl) (orc []) (liveOf 22) (s1 := s22b0 b a0 a1 a3 n1 n2 n3 l2 l3) (by kernel_rfl)
    (by rw [show (s22b0 b a0 a1 a3 n1 n2 n3 l2 l3).log = [pB .neq 3 (.tmp 57) (.const (.int .i64 0)) (.int .i64 ((l3.length % 3 : Nat) : Int)) (.int .i64 (0)) (bA false), pB .rem 3 (.tmp 56) (.const (.int .i64 3)) (.int .i64 ((l3.length : Nat) : Int)) (.int .i64 (3)) (iA ((l3.length % 3 : Nat) : Int)), Ok Try.prog 47 [rowU (b.drop (n1 + n2))] (gRes 0 l3 n3), cmdSlice Try.prog 34 (rowU b) (some (iA ((n1 + n2 : Nat) : Int))) none none = some (.val (rowU (b.drop (n1 + n2)))), pB .add 3 (.tmp 41) (.tmp 42) (.int .i64 ((n1 : Nat) : Int)) (.int .i64 ((n2 : Nat) : Int)) (iA ((n1 + n2 : Nat) : Int)), Ok Try.prog 47 [rowU (b.drop n1)] (gRes 0 l2 n2), cmdSlice Try.prog 34 (rowU b) (some (iA ((n1 : Nat) : Int))) none none = some (.val (rowU (b.drop n1))), Ok Try.prog 47 [rowU b] (gRes 0 [a0, a1, 0, a3] n1)] by kernel_rfl]; exact (allc (hNeq _ _ _ _ _ _ ((by rw [bne_eq_false_iff_eq]; omega))) (allc (hRem _ _ _ _ _ _ (by omega) (by rw [Int.tmod_eq_emod_of_nonneg (by omega)]; omega) ⟨by omega, by omega⟩) (allc (h3) (allc (by rw [← rowU_drop b (n1 + n2) (by omega)]; exact el34.slLo (rowOf_row _ _ _ _) (by omega)) (allc (hAdd _ _ _ _ _ _ (by simp) ⟨by omega, by omega⟩) (allc (h2) (allc (by rw [← rowU_drop b n1 (by omega)]; exact el34.slLo (rowOf_row _ _ _ _) (by omega)) (allc (h1) allnil))))))))) 0 (Nat.zero_le _) (by simp only [List.take_zero]; kernel_rfl) ?_
  intro j hj
  have hlen := evs3_length l3
  by_cases hi : j < (evs3 l3).length
  · obtain ⟨p, hp⟩ : ∃ p, l3[3 * j]? = some p := ⟨l3[3 * j]'(by omega), List.getElem?_eq_getElem (by omega)⟩
    obtain ⟨k, hk⟩ : ∃ k, l3[3 * j + 1]? = some k := ⟨l3[3 * j + 1]'(by omega), List.getElem?_eq_getElem (by omega)⟩
    obtain ⟨n, hn⟩ : ∃ n, l3[3 * j + 2]? = some n := ⟨l3[3 * j + 2]'(by omega), List.getElem?_eq_getElem (by omega)⟩
    have hev := evs3_at l3 j p k n hp hk hn
    have e2 : evA ((evs3 l3).take (j + 1)) = evA ((evs3 l3).take j) ++ [iA p, iA k, iA n] := by rw [take_succ_at hev, evA_append]; rfl
    generalize hcs : evA ((evs3 l3).take j) = cs at e2
    refine Judg.run' 22 (orc [(89, .val (iA ((3 * j + 2 : Nat) : Int))), (92, .val (bA true)), (99, .val (.rptr (iA (p) :: (l3.drop (3 * j + 1)).map iA))), (103, .val (iA ((3 * j + 1 : Nat) : Int))), (104, .val (.rptr (iA (k) :: (l3.drop (3 * j + 1 + 1)).map iA))), (108, .val (iA ((3 * j + 2 : Nat) : Int))), (109, .val (.rptr (iA (n) :: (l3.drop (3 * j + 2 + 1)).map iA))), (113, .grow 113 71 3 (j) (cs) (1) ([iA (p), iA (k), iA (n)])), (94, .val (iA ((3 * (j + 1) : Nat) : Int)))]) (.go (stOf (runCode Try.prog (orc [(89, .val (iA ((3 * j + 2 : Nat) : Int))), (92, .val (bA true)), (99, .val (.rptr (iA (p) :: (l3.drop (3 * j + 1)).map iA))), (103, .val (iA ((3 * j + 1 : Nat) : Int))), (104, .val (.rptr (iA (k) :: (l3.drop (3 * j + 1 + 1)).map iA))), (108, .val (iA ((3 * j + 2 : Nat) : Int))), (109, .val (.rptr (iA (n) :: (l3.drop (3 * j + 2 + 1)).map iA))), (113, .grow 113 71 3 (j) (cs) (1) ([iA (p), iA (k), iA (n)])), (94, .val (iA ((3 * (j + 1) : Nat) : Int)))]) (liveOf 22) 0 (fB (post 9 C22)) (st22 a0 a1 a3 n1 n2 n3 l2 l3 false j cs)))) [pB .add 3 (.tmp 93) (.const (.int .i64 3)) (.int .i64 ((3 * j : Nat) : Int)) (.int .i64 (3)) (iA ((3 * (j + 1) : Nat) : Int)), cmdAppend Try.prog 23 23 (.row (some (113, 71)) 3 (j) (cs)) (.row (some (112, 71)) 3 (1) ([iA (p), iA (k), iA (n)])) = some (.grow 113 71 3 (j) (cs) (1) ([iA (p), iA (k), iA (n)])), j * 3 = j * 3, cmdIndexAddr Try.prog 22 (rowI l3) (iA ((3 * j + 2 : Nat) : Int)) = some (.val (.rptr (iA (n) :: (l3.drop (3 * j + 2 + 1)).map iA))), pB .add 3 (.tmp 107) (.const (.int .i64 2)) (.int .i64 ((3 * j : Nat) : Int)) (.int .i64 (2)) (iA ((3 * j + 2 : Nat) : Int)), cmdIndexAddr Try.prog 22 (rowI l3) (iA ((3 * j + 1 : Nat) : Int)) = some (.val (.rptr (iA (k) :: (l3.drop (3 * j + 1 + 1)).map iA))), pB .add 3 (.tmp 102) (.const (.int .i64 1)) (.int .i64 ((3 * j : Nat) : Int)) (.int .i64 (1)) (iA ((3 * j + 1 : Nat) : Int)), cmdIndexAddr Try.prog 22 (rowI l3) (iA ((3 * j : Nat) : Int)) = some (.val (.rptr (iA (p) :: (l3.drop (3 * j + 1)).map iA))), pB .lss 3 (.tmp 89) (.tmp 91) (.int .i64 ((3 * j + 2 : Nat) : Int)) (.int .i64 ((l3.length : Nat) : Int)) (bA true), pB .add 3 (.tmp 88) (.const (.int .i64 2)) (.int .i64 ((3 * j : Nat) : Int)) (.int .i64 (2)) (iA ((3 * j + 2 : Nat) : Int))] (by kernel_rfl) (by kernel_rfl) (allc (hAdd _ _ _ _ _ _ (by omega) ⟨by omega, by omega⟩) (allc (el23.grow (rowOf_row _ _ _ _) (fits_of (by simp <;> omega) (by omega))) (allc (rfl) (allc (hIdxI hn) (allc (hAdd _ _ _ _ _ _ (by simp) ⟨by omega, by omega⟩) (allc (hIdxI hk) (allc (hAdd _ _ _ _ _ _ (by simp) ⟨by omega, by omega⟩) (allc (hIdxI hp) (allc (hLss _ _ _ _ _ _ (decide_eq_true (by omega))) (allc (hAdd _ _ _ _ _ _ (by simp) ⟨by omega, by omega⟩) allnil)))))))))) ⟨j + 1, by omega, by omega, ?_⟩
    simp only [e2]
    kernel_rfl
  · obtain rfl : j = (evs3 l3).length := by omega
    rw [List.take_length]
    refine Judg.run' 22 (orc [(89, .val (iA ((3 * (evs3 l3).length + 2 : Nat) : Int))), (92, .val (bA false))]) (.exit 0 (stOf (runCode Try.prog (orc [(89, .val (iA ((3 * (evs3 l3).length + 2 : Nat) : Int))), (92, .val (bA false))]) (liveOf 22) 0 (fB (post 9 C22)) (st22 a0 a1 a3 n1 n2 n3 l2 l3 false (evs3 l3).length (evA (evs3 l3)))))) [pB .lss 3 (.tmp 89) (.tmp 91) (.int .i64 ((3 * (evs3 l3).length + 2 : Nat) : Int)) (.int .i64 ((l3.length : Nat) : Int)) (bA false), pB .add 3 (.tmp 88) (.const (.int .i64 2)) (.int .i64 ((3 * (evs3 l3).length : Nat) : Int)) (.int .i64 (2)) (iA ((3 * (evs3 l3).length + 2 : Nat) : Int))] (by kernel_rfl) (by kernel_rfl) (allc (hLss _ _ _ _ _ _ (decide_eq_false (by omega))) (allc (hAdd _ _ _ _ _ _ (by simp) ⟨by omega, by omega⟩) allnil)) ?_
    show Judg (fK (post 9 C22)) _ _
    cases hv : validB ⟨a0, a1, l2, evs3 l3, false, a3⟩ with
    | true =>
      rw [hv] at ok12'
      have h12 := ok12'
      refine Judg.run' 22 (orcC [(116, plainR (bA true))] [(122, .val (iA ((n1 + n2 + n3 : Nat) : Int)))]) (.ret (stOf (runCode Try.prog (orcC [(116, plainR (bA true))] [(122, .val (iA ((n1 + n2 + n3 : Nat) : Int)))]) (liveOf 22) 0 (fK (post 9 C22)) ((stOf (runCode Try.prog (orc [(89, .val (iA ((3 * (evs3 l3).length + 2 : Nat) : Int))), (92, .val (bA false))]) (liveOf 22) 0 (fB (post 9 C22)) (st22 a0 a1 a3 n1 n2 n3 l2 l3 false (evs3 l3).length (evA (evs3 l3))))))))) [pB .add 3 (.tmp 120) (.tmp 121) (.int .i64 ((n1 + n2 : Nat) : Int)) (.int .i64 ((n3 : Nat) : Int)) (iA ((n1 + n2 + n3 : Nat) : Int)), Ok Try.prog 12 [.agg [iA (a0), iA (a1), rowI l2, rowE (evs3 l3), bA false, iA (a3)]] (plainR (bA true)), pB .lss 3 (.tmp 89) (.tmp 91) (.int .i64 ((3 * (evs3 l3).length + 2 : Nat) : Int)) (.int .i64 ((l3.length : Nat) : Int)) (bA false), pB .add 3 (.tmp 88) (.const (.int .i64 2)) (.int .i64 ((3 * (evs3 l3).length : Nat) : Int)) (.int .i64 (2)) (iA ((3 * (evs3 l3).length + 2 : Nat) : Int))] (by kernel_rfl) (by kernel_rfl) (allc (hAdd _ _ _ _ _ _ (by simp) ⟨by omega, by omega⟩) (allc (h12) (allc (hLss _ _ _ _ _ _ (decide_eq_false (by omega))) (allc (hAdd _ _ _ _ _ _ (by simp) ⟨by omega, by omega⟩) allnil)))) ?_
      exact fin_retW (l := []) _ (by kernel_rfl) allnil (ResImp.refl _)
    | false =>
      rw [hv] at ok12'
      have h12 := ok12'
      refine Judg.run' 22 (orcC [(116, plainR (bA false))] []) (.ret (stOf (runCode Try.prog (orcC [(116, plainR (bA false))] []) (liveOf 22) 0 (fK (post 9 C22)) ((stOf (runCode Try.prog (orc [(89, .val (iA ((3 * (evs3 l3).length + 2 : Nat) : Int))), (92, .val (bA false))]) (liveOf 22) 0 (fB (post 9 C22)) (st22 a0 a1 a3 n1 n2 n3 l2 l3 false (evs3 l3).length (evA (evs3 l3))))))))) [Ok Try.prog 12 [.agg [iA (a0), iA (a1), rowI l2, rowE (evs3 l3), bA false, iA (a3)]] (plainR (bA false)), pB .lss 3 (.tmp 89) (.tmp 91) (.int .i64 ((3 * (evs3 l3).length + 2 : Nat) : Int)) (.int .i64 ((l3.length : Nat) : Int)) (bA false), pB .add 3 (.tmp 88) (.const (.int .i64 2)) (.int .i64 ((3 * (evs3 l3).length : Nat) : Int)) (.int .i64 (2)) (iA ((3 * (evs3 l3).length + 2 : Nat) : Int))] (by kernel_rfl) (by kernel_rfl) (allc (h12) (allc (hLss _ _ _ _ _ _ (decide_eq_false (by omega))) (allc (hAdd _ _ _ _ _ _ (by simp) ⟨by omega, by omega⟩) allnil))) ?_
      exact fin_retW (l := []) _ (by kernel_rfl) allnil ResImp.zeroTup

noncomputable def s22a1 (b : List Int) (a0 a1 a3 : Int) (n1 n2 n3 : Nat) (l2 l3 : List Int) : St := stOf (runCode Try.prog (orcC [(18, gRes 0 [a0, a1, 1, a3] n1), (34, gRes 0 l2 n2), (48, gRes 0 l3 n3)] [(33, .val (rowU (b.drop n1))), (43, .val (iA ((n1 + n2 : Nat) : Int))), (47, .val (rowU (b.drop (n1 + n2)))), (57, .val (iA ((l3.length % 3 : Nat) : Int))), (58, .val (bA false))]) (liveOf 22) 0 (Ytlekojbcaelpiaa.pre 9 C22) (start [rowU b] 123))
noncomputable def s22c1 (b : List Int) (a0 a1 a3 : Int) (n1 n2 n3 : Nat) (l2 l3 : List Int) : St := { s22a1 b a0 a1 a3 n1 n2 n3 l2 l3 with objs := (14, (25, [iA (a0), iA (a1), rowI l2, .row (some (113, 71)) 3 0 [], bA true, iA (a3)])) :: (s22a1 b a0 a1 a3 n1 n2 n3 l2 l3).objs, lens := (113, 0) :: (s22a1 b a0 a1 a3 n1 n2 n3 l2 l3).lens }
noncomputable def s22b1 (b : List Int) (a0 a1 a3 : Int) (n1 n2 n3 : Nat) (l2 l3 : List Int) : St := stOf (runCode Try.prog (orc []) (liveOf 22) 0 (fR (post 9 C22)) (s22c1 b a0 a1 a3 n1 n2 n3 l2 l3))
theorem de_g1 (b : List Int) (a0 a1 a3 : Int) (n1 : Nat) (h1 : Ok Try.prog 47 [rowU b] (gRes 0 [a0, a1, 1, a3] n1)) (hn1 : n1 ≤ b.length) (l2 : List Int) (n2 : Nat) (h2 : Ok Try.prog 47 [rowU (b.drop n1)] (gRes 0 l2 n2)) (hb : b.length ≤ 900000) (hn2 : n1 + n2 ≤ b.length) (l3 : List Int) (n3 : Nat) (h3 : Ok Try.prog 47 [rowU (b.drop (n1 + n2))] (gRes 0 l3 n3)) (hn3 : n1 + n2 + n3 ≤ b.length) (hl3 : l3.length ≤ b.length) (h : l3.length % 3 = 0) (ok12' : Ok Try.prog 12 [rpA ⟨a0, a1, l2, evs3 l3, true, a3⟩] (plainR (bA (validB ⟨a0, a1, l2, evs3 l3, true, a3⟩)))) : Ok Try.prog 22 [rowU b] (plainR (decA (if validB ⟨a0, a1, l2, evs3 l3, true, a3⟩ = true then some (⟨a0, a1, l2, evs3 l3, true, a3⟩, n1 + n2 + n3) else none))) := by
  refine Ok.judgW Try.func22 (c := C22) rfl (by simp [Try.ntmps22]) ?_
  refine Judg.pre' 22 (orcC [(18, gRes 0 [a0, a1, 1, a3] n1), (34, gRes 0 l2 n2), (48, gRes 0 l3 n3)] [(33, .val (rowU (b.drop n1))), (43, .val (iA ((n1 + n2 : Nat) : Int))), (47, .val (rowU (b.drop (n1 + n2)))), (57, .val (iA ((l3.length % 3 : Nat) : Int))), (58, .val (bA false))]) 9 (s22a1 b a0 a1 a3 n1 n2 n3 l2 l3) [pB .neq 3 (.tmp 57) (.const (.int .i64 0)) (.int .i64 ((l3.length % 3 : Nat) : Int)) (.int .i64 (0)) (bA false), pB .rem 3 (.tmp 56) (.const (.int .i64 3)) (.int .i64 ((l3.length : Nat) : Int)) (.int .i64 (3)) (iA ((l3.length % 3 : Nat) : Int)), Ok Try.prog 47 [rowU (b.drop (n1 + n2))] (gRes 0 l3 n3), cmdSlice Try.prog 34 (rowU b) (some (iA ((n1 + n2 : Nat) : Int))) none none = some (.val (rowU (b.drop (n1 + n2)))), pB .add 3 (.tmp 41) (.tmp 42) (.int .i64 ((n1 : Nat) : Int)) (.int .i64 ((n2 : Nat) : Int)) (iA ((n1 + n2 : Nat) : Int)), Ok Try.prog 47 [rowU (b.drop n1)] (gRes 0 l2 n2), cmdSlice Try.prog 34 (rowU b) (some (iA ((n1 : Nat) : Int))) none none = some (.val (rowU (b.drop n1))), Ok Try.prog 47 [rowU b] (gRes 0 [a0, a1, 1, a3] n1)] (by kernel_rfl) (by kernel_rfl) (allc (hNeq _ _ _ _ _ _ ((by rw [bne_eq_false_iff_eq]; omega))) (allc (hRem _ _ _ _ _ _ (by omega) (by rw [Int.tmod_eq_emod_of_nonneg (by omega)]; omega) ⟨by omega, by omega⟩) (allc (h3) (allc (by rw [← rowU_drop b (n1 + n2) (by omega)]; exact el34.slLo (rowOf_row _ _ _ _) (by omega)) (allc (hAdd _ _ _ _ _ _ (by simp) ⟨by omega, by omega⟩) (allc (h2) (allc (by rw [← rowU_drop b n1 (by omega)]; exact el34.slLo (rowOf_row _ _ _ _) (by omega)) (allc (h1) allnil)))))))) ?_
  refine Judg.nilCell 14 3 113 71 3 (ty := 25) (xs := [iA (a0), iA (a1), rowI l2, .sc (.slice none 0 0), bA true, iA (a3)]) (by kernel_rfl) rfl (by kernel_rfl) ?_
  refine Judg.for_ (ι := Nat) [2, 6, 11, 12, 14, 15] [2, 14, 113] (fun j => st22 a0 a1 a3 n1 n2 n3 l2 l3 true j (evA ((evs3 l3).take j))) (fun j => (evs3 l3).length - j) (fun j => j ≤ (evs3 l3).length) (by kernel_rfl) (orc []) (liveOf 22) (s1 := s22b1 b a0 a1 a3 n1 n2 n3 l2 l3) (by kernel_rfl)
    (by rw [show (s22b1 b a0 a1 a3 n1 n2 n3 l2 l3).log = [pB .neq 3 (.tmp 57) (.const (.int .i64 0)) (.int .i64 ((l3.length % 3 : Nat) : Int)) (.int .i64 (0)) (bA false), pB .rem 3 (.tmp 56) (.const (.int .i64 3)) (.int .i64 ((l3.length : Nat) : Int)) (.int .i64 (3)) (iA ((l3.length % 3 : Nat) : Int)), Ok Try.prog 47 [rowU (b.drop (n1 + n2))] (gRes 0 l3 n3), cmdSlice Try.prog 34 (rowU b) (some (iA ((n1 + n2 : Nat) : Int))) none none = some (.val (rowU (b.drop (n1 + n2)))), pB .add 3 (.tmp 41) (.tmp 42) (.int .i64 ((n1 : Nat) : Int)) (.int .i64 ((n2 : Nat) : Int)) (iA ((n1 + n2 : Nat) : Int)), Ok Try.prog 47 [rowU (b.drop n1)] (gRes 0 l2 n2), cmdSlice Try.prog 34 (rowU b) (some (iA ((n1 : Nat) : Int))) none none = some (.val (rowU (b.drop n1))), Ok Try.prog 47 [rowU b] (gRes 0 [a0, a1, 1, a3] n1)] by kernel_rfl]; exact (allc (hNeq _ _ _ _ _ _ ((by rw [bne_eq_false_iff_eq]; omega))) (allc (hRem _ _ _ _ _ _ (by omega) (by rw [Int.tmod_eq_emod_of_nonneg (by omega)]; omega) ⟨by omega, by omega⟩) (allc (h3) (allc (by rw [← rowU_drop b (n1 + n2) (by omega)]; exact el34.slLo (rowOf_row _ _ _ _) (by omega)) (allc (hAdd _ _ _ _ _ _ (by simp) ⟨by omega, by omega⟩) (allc (h2) (allc (by rw [← rowU_drop b n1 (by omega)]; exact el34.slLo (rowOf_row _ _ _ _) (by omega)) (allc (h1) allnil))))))))) 0 (Nat.zero_le _) (by simp only [List.take_zero]; kernel_rfl) ?_
  intro j hj
  have hlen := evs3_length l3
  by_cases hi : j < (evs3 l3).length
  · obtain ⟨p, hp⟩ : ∃ p, l3[3 * j]? = some p := ⟨l3[3 * j]'(by omega), List.getElem?_eq_getElem (by omega)⟩
    obtain ⟨k, hk⟩ : ∃ k, l3[3 * j + 1]? = some k := ⟨l3[3 * j + 1]'(by omega), List.getElem?_eq_getElem (by omega)⟩
    obtain ⟨n, hn⟩ : ∃ n, l3[3 * j + 2]? = some n := ⟨l3[3 * j + 2]'(by omega), List.getElem?_eq_getElem (by omega)⟩
    have hev := evs3_at l3 j p k n hp hk hn
    have e2 : evA ((evs3 l3).take (j + 1)) = evA ((evs3 l3).take j) ++ [iA p, iA k, iA n] := by rw [take_succ_at hev, evA_append]; rfl
    generalize hcs : evA ((evs3 l3).take j) = cs at e2
    refine Judg.run' 22 (orc [(89, .val (iA ((3 * j + 2 : Nat) : Int))), (92, .val (bA true)), (99, .val (.rptr (iA (p) :: (l3.drop (3 * j + 1)).map iA))), (103, .val (iA ((3 * j + 1 : Nat) : Int))), (104, .val (.rptr (iA (k) :: (l3.drop (3 * j + 1 + 1)).map iA))), (108, .val (iA ((3 * j + 2 : Nat) : Int))), (109, .val (.rptr (iA (n) :: (l3.drop (3 * j + 2 + 1)).map iA))), (113, .grow 113 71 3 (j) (cs) (1) ([iA (p), iA (k), iA (n)])), (94, .val (iA ((3 * (j + 1) : Nat) : Int)))]) (.go (stOf (runCode Try.prog (orc [(89, .val (iA ((3 * j + 2 : Nat) : Int))), (92, .val (bA true)), (99, .val (.rptr (iA (p) :: (l3.drop (3 * j + 1)).map iA))), (103, .val (iA ((3 * j + 1 : Nat) : Int))), (104, .val (.rptr (iA (k) :: (l3.drop (3 * j + 1 + 1)).map iA))), (108, .val (iA ((3 * j + 2 : Nat) : Int))), (109, .val (.rptr (iA (n) :: (l3.drop (3 * j + 2 + 1)).map iA))), (113, .grow 113 71 3 (j) (cs) (1) ([iA (p), iA (k), iA (n)])), (94, .val (iA ((3 * (j + 1) : Nat) : Int)))]) (liveOf 22) 0 (fB (post 9 C22)) (st22 a0 a1 a3 n1 n2 n3 l2 l3 true j cs)))) [pB .add 3 (.tmp 93) (.const (.int .i64 3)) (.int .i64 ((3 * j : Nat) : Int)) (.int .i64 (3)) (iA ((3 * (j + 1) : Nat) : Int)), cmdAppend Try.prog 23 23 (.row (some (113, 71)) 3 (j) (cs)) (.row (some (112, 71)) 3 (1) ([iA (p), iA (k), iA (n)])) = some (.grow 113 71 3 (j) (cs) (1) ([iA (p), iA (k), iA (n)])), j * 3 = j * 3, cmdIndexAddr Try.prog 22 (rowI l3) (iA ((3 * j + 2 : Nat) : Int)) = some (.val (.rptr (iA (n) :: (l3.drop (3 * j + 2 + 1)).map iA))), pB .add 3 (.tmp 107) (.const (.int .i64 2)) (.int .i64 ((3 * j : Nat) : Int)) (.int .i64 (2)) (iA ((3 * j + 2 : Nat) : Int)), cmdIndexAddr Try.prog 22 (rowI l3) (iA ((3 * j + 1 : Nat) : Int)) = some (.val (.rptr (iA (k) :: (l3.drop (3 * j + 1 + 1)).map iA))), pB .add 3 (.tmp 102) (.const (.int .i64 1)) (.int .i64 ((3 * j : Nat) : Int)) (.int .i64 (1)) (iA ((3 * j + 1 : Nat) : Int)), cmdIndexAddr Try.prog 22 (rowI l3) (iA ((3 * j : Nat) : Int)) = some (.val (.rptr (iA (p) :: (l3.drop (3 * j + 1)).map iA))), pB .lss 3 (.tmp 89) (.tmp 91) (.int .i64 ((3 * j + 2 : Nat) : Int)) (.int .i64 ((l3.length : Nat) : Int)) (bA true), pB .add 3 (.tmp 88) (.const (.int .i64 2)) (.int .i64 ((3 * j : Nat) : Int)) (.int .i64 (2)) (iA ((3 * j + 2 : Nat) : Int))] (by kernel_rfl) (by kernel_rfl) (allc (hAdd _ _ _ _ _ _ (by omega) ⟨by omega, by omega⟩) (allc (el23.grow (rowOf_row _ _ _ _) (fits_of (by simp <;> omega) (by omega))) (allc (rfl) (allc (hIdxI hn) (allc (hAdd _ _ _ _ _ _ (by simp) ⟨by omega, by omega⟩) (allc (hIdxI hk) (allc (hAdd _ _ _ _ _ _ (by simp) ⟨by omega, by omega⟩) (allc (hIdxI hp) (allc (hLss _ _ _ _ _ _ (decide_eq_true (by omega))) (allc (hAdd _ _ _ _ _ _ (by simp) ⟨by omega, by omega⟩) allnil)))))))))) ⟨j + 1, by omega, by omega, ?_⟩
    simp only [e2]
    kernel_rfl
  · obtain rfl : j = (evs3 l3).length := by omega
    rw [List.take_length]
    refine Judg.run' 22 (orc [(89, .val (iA ((3 * (evs3 l3).length + 2 : Nat) : Int))), (92, .val (bA false))]) (.exit 0 (stOf (runCode Try.prog (orc [(89, .val (iA ((3 * (evs3 l3).length + 2 : Nat) : Int))), (92, .val (bA false))]) (liveOf 22) 0 (fB (post 9 C22)) (st22 a0 a1 a3 n1 n2 n3 l2 l3 true (evs3 l3).length (evA (evs3 l3)))))) [pB .lss 3 (.tmp 89) (.tmp 91) (.int .i64 ((3 * (evs3 l3).length + 2 : Nat) : Int)) (.int .i64 ((l3.length : Nat) : Int)) (bA false), pB .add 3 (.tmp 88) (.const (.int .i64 2)) (.int .i64 ((3 * (evs3 l3).length : Nat) : Int)) (.int .i64 (2)) (iA ((3 * (evs3 l3).length + 2 : Nat) : Int))] (by kernel_rfl) (by kernel_rfl) (allc (hLss _ _ _ _ _ _ (decide_eq_false (by omega))) (allc (hAdd _ _ _ _ _ _ (by simp) ⟨by omega, by omega⟩) allnil)) ?_
    show Judg (fK (post 9 C22)) _ _
    cases hv : validB ⟨a0, a1, l2, evs3 l3, true, a3⟩ with
    | true =>
      rw [hv] at ok12'
      have h12 := ok12'
      refine Judg.run' 22 (orcC [(116, plainR (bA true))] [(122, .val (iA ((n1 + n2 + n3 : Nat) : Int)))]) (.ret (stOf (runCode Try.prog (orcC [(116, plainR (bA true))] [(122, .val (iA ((n1 + n2 + n3 : Nat) : Int)))]) (liveOf 22) 0 (fK (post 9 C22)) ((stOf (runCode Try.prog (orc [(89, .val (iA ((3 * (evs3 l3).length + 2 : Nat) : Int))), (92, .val (bA false))]) (liveOf 22) 0 (fB (post 9 C22)) (st22 a0 a1 a3 n1 n2 n3 l2 l3 true (evs3 l3).length (evA (evs3 l3))))))))) [pB .add 3 (.tmp 120) (.tmp 121) (.int .i64 ((n1 + n2 : Nat) : Int)) (.int .i64 ((n3 : Nat) : Int)) (iA ((n1 + n2 + n3 : Nat) : Int)), Ok Try.prog 12 [.agg [iA (a0), iA (a1), rowI l2, rowE (evs3 l3), bA true, iA (a3)]] (plainR (bA true)), pB .lss 3 (.tmp 89) (.tmp 91) (.int .i64 ((3 * (evs3 l3).length + 2 : Nat) : Int)) (.int .i64 ((l3.length : Nat) : Int)) (bA false), pB .add 3 (.tmp 88) (.const (.int .i64 2)) (.int .i64 ((3 * (evs3 l3).length : Nat) : Int)) (.int .i64 (2)) (iA ((3 * (evs3 l3).length + 2 : Nat) : Int))] (by kernel_rfl) (by kernel_rfl) (allc (hAdd _ _ _ _ _ _ (by simp) ⟨by omega, by omega⟩) (allc (h12) (allc (hLss _ _ _ _ _ _ (decide_eq_false (by omega))) (allc (hAdd _ _ _ _ _ _ (by simp) ⟨by omega, by omega⟩) allnil)))) ?_
      exact fin_retW (l := []) _ (by kernel_rfl) allnil (ResImp.refl _)
    | false =>
      rw [hv] at ok12'
      have h12 := ok12'
      refine Judg.run' 22 (orcC [(116, plainR (bA false))] []) (.ret (stOf (runCode Try.prog (orcC [(116, plainR (bA false))] []) (liveOf 22) 0 (fK (post 9 C22)) ((stOf (runCode Try.prog (orc [(89, .val (iA ((3 * (evs3 l3).length + 2 : Nat) : Int))), (92, .val (bA false))]) (liveOf 22) 0 (fB (post 9 C22)) (st22 a0 a1 a3 n1 n2 n3 l2 l3 true (evs3 l3).length (evA (evs3 l3))))))))) [Ok Try.prog 12 [.agg [iA (a0), iA (a1), rowI l2, rowE (evs3 l3), bA true, iA (a3)]] (plainR (bA false)), pB .lss 3 (.tmp 89) (.tmp 91) (.int .i64 ((3 * (evs3 l3).length + 2 : Nat) : Int)) (.int .i64 ((l3.length : Nat) : Int)) (bA false), pB .add 3 (.tmp 88) (.const (.int .i64 2)) (.int .i64 ((3 * (evs3 l3).length : Nat) : Int)) (.int .i64 (2)) (iA ((3 * (evs3 l3).length + 2 : Nat) : Int))] (by kernel_rfl) (by kernel_rfl) (allc (h12) (allc (hLss _ _ _ _ _ _ (decide_eq_false (by omega))) (allc (hAdd _ _ _ _ _ _ (by simp) ⟨by omega, by omega⟩) allnil))) ?_
      exact fin_retW (l := []) _ (by kernel_rfl) allnil ResImp.zeroTup

theorem ok22 (b : List Int) (hb : b.length ≤ 900000) (hu : U8s b) : Ok Try.prog 22 [rowU b] (plainR (decA (decR b))) := by
  have h1 := ok47 b (by omega) hu
  unfold getsRes at h1
  unfold decR
  rcases getsZ_form b hu with ⟨e, he, hz⟩ | ⟨l1, n1, hz, hn1, hl1, hw1⟩
  · rw [hz] at h1 ⊢
    rw [if_pos (by simp; omega)]
    exact (de_a b e (by omega) h1).imp ResImp.zeroTup
  rw [hz] at h1 ⊢
  simp only [ne_eq, not_true, if_false]
  by_cases hl4 : l1.length = 4
  case neg =>
    have := (de_b b l1 n1 hl4 h1).imp (ResImp.zeroTup (xs := [iA 0, iA 2]))
    split
    · simp at hl4
    · exact this
  obtain ⟨a0, a1, a2, a3, rfl⟩ : ∃ a0 a1 a2 a3, l1 = [a0, a1, a2, a3] := by
    match l1, hl4 with
    | [a0, a1, a2, a3], _ => exact ⟨a0, a1, a2, a3, rfl⟩
  simp only
  have h2 := ok47 (b.drop n1) (by simp; omega) (hu.drop n1)
  unfold getsRes at h2
  rcases getsZ_form (b.drop n1) (hu.drop n1) with ⟨e, he, hz2⟩ | ⟨l2, n2, hz2, hn2, hl2, hw2⟩
  · rw [hz2] at h2 ⊢
    rw [if_pos (by simp; omega)]
    exact (de_c b a0 a1 a2 a3 n1 h1 hn1 e (by omega) h2).imp ResImp.zeroTup
  rw [hz2] at h2 ⊢
  simp only [not_true, if_false]
  simp only [List.length_drop] at hn2 hl2
  have h3 := ok47 (b.drop (n1 + n2)) (by simp; omega) (hu.drop _)
  unfold getsRes at h3
  rcases getsZ_form (b.drop (n1 + n2)) (hu.drop _) with ⟨e, he, hz3⟩ | ⟨l3, n3, hz3, hn3, hl3, hw3⟩
  · rw [hz3] at h3 ⊢
    rw [if_pos (by simp; omega)]
    exact (de_d b a0 a1 a2 a3 n1 h1 hn1 l2 n2 h2 hb (by omega) e (by omega) h3).imp ResImp.zeroTup
  rw [hz3] at h3 ⊢
  simp only [not_true, if_false]
  simp only [List.length_drop] at hn3 hl3
  by_cases hm : l3.length % 3 = 0
  case neg =>
    rw [if_pos hm]
    exact (de_e b a0 a1 a2 a3 n1 h1 hn1 l2 n2 h2 hb (by omega) l3 n3 h3 (by omega) (by omega) hm).imp ResImp.zeroTup
  rw [if_neg (by simpa using hm)]
  by_cases ha : a2 ≠ 0 ∧ a2 ≠ 1
  · rw [if_pos ha]
    exact (de_f b a0 a1 a2 a3 n1 h1 hn1 l2 n2 h2 hb (by omega) l3 n3 h3 (by omega) (by omega) hm ha.1 ha.2).imp ResImp.zeroTup
  rw [if_neg ha]
  have hfit : ∀ cu, Fit ⟨a0, a1, l2, evs3 l3, cu, a3⟩ := fun cu => ⟨by show l2.length ≤ _; omega, by show (evs3 l3).length ≤ _; rw [evs3_length]; omega, ⟨hw1 _ (by simp), hw1 _ (by simp), hw1 _ (by simp), hw2, nums_evs3 l3 hw3⟩⟩
  have ha' : a2 = 0 ∨ a2 = 1 := by
    by_cases h0 : a2 = 0
    · exact .inl h0
    · by_cases h1 : a2 = 1
      · exact .inr h1
      · exact absurd ⟨h0, h1⟩ ha
  rcases ha' with rfl | rfl
  · exact de_g0 b a0 a1 a3 n1 h1 hn1 l2 n2 h2 hb (by omega) l3 n3 h3 (by omega) (by omega) hm (ok12 _ (hfit false))
  · exact de_g1 b a0 a1 a3 n1 h1 hn1 l2 n2 h2 hb (by omega) l3 n3 h3 (by omega) (by omega) hm (ok12 _ (hfit true))
end Go.Proofs.Ytlekojbcaelpiaa

/- scoriaref38.All. -/
namespace Go.Proofs.Ytlekojbcaelpiaa
open Go.RowKit
theorem rowI_sub (l : List Int) (a m : Nat) (h1 : a ≤ m) (h : m ≤ l.length) : AV.row none 1 (m - a) (((l.map iA).drop (a * 1)).take ((m - a) * 1)) = rowI ((l.drop a).take (m - a)) := by
  unfold rowI
  rw [Nat.mul_one, Nat.mul_one, ← List.map_drop, ← List.map_take, List.length_take, List.length_drop, Nat.min_eq_left (by omega)]
def allG (l : List Int) (k : Nat) : Rp := oneR ((l.drop (7 * k)).take 7)
def allR (l : List Int) : List Rp := (List.range (min 8 ((l.length + 6) / 7))).map (allG l)
noncomputable abbrev C25 : Code := bodyOf Try.f25
def st25 (l : List Int) (k : Nat) (cs : List AV) : St := { n := 31, slots := [(0, rowI l), (3, .row (some (29, 25)) 6 (k) (cs)), (4, iA ((k : Nat) : Int))], objs := [], lens := [(29, k * 6)] }
noncomputable def s25a (l : List Int) : St := stOf (runCode Try.prog (orc []) (liveOf 25) 0 (Ytlekojbcaelpiaa.pre 2 C25) (start [rowI l] 31))
noncomputable def s25c (l : List Int) : St := { s25a l with slots := (3, .row (some (29, 25)) 6 0 []) :: (s25a l).slots, lens := (29, 0) :: (s25a l).lens }
noncomputable def s25b (l : List Int) : St := stOf (runCode Try.prog (orc []) (liveOf 25) 0 (fR (post 2 C25)) (s25c l))
theorem ok25 (l : List Int) (hl : l.length ≤ 90000000) (hw : I64s l) : Ok Try.prog 25 [rowI l] (ownR 25 (allR l)) := by
  refine Ok.judgW Try.func25 (c := C25) rfl (by simp [Try.ntmps25]) ?_
  refine Judg.pre' 25 (orc []) 2 (s25a l) [] (by kernel_rfl) (by kernel_rfl) allnil ?_
  refine Judg.nilSlot 3 29 25 6 (by kernel_rfl) (by kernel_rfl) ?_
  refine Judg.for_ (ι := Nat) [0, 3, 4] [29] (fun k => st25 l k (rpsA ((List.range k).map (allG l)))) (fun k => 8 - k) (fun k => k ≤ 8 ∧ (k = 0 ∨ 7 * (k - 1) < l.length)) (by kernel_rfl) (orc []) (liveOf 25) (s1 := s25b l) (by kernel_rfl)
    (by rw [show (s25b l).log = [] by kernel_rfl]; exact allnil) 0 ⟨by omega, .inl rfl⟩ (by kernel_rfl) ?_
  rintro k ⟨hk8, hk7⟩
  have fin : (k = 8 ∨ ¬ 7 * k < l.length) → ownR 25 (allR l) = { v := .row none 6 k (rpsA ((List.range k).map (allG l))), own := some 25 } := fun h => by
    unfold ownR rowR allR
    have e : min 8 ((l.length + 6) / 7) = k := by omega
    rw [e, List.length_map, List.length_range]
  by_cases h7 : 7 * k < l.length
  · by_cases h8 : k < 8
    · obtain ⟨m, hm⟩ : ∃ m, min l.length (7 * k + 7) = m := ⟨_, rfl⟩
      have hone : allG l k = oneR ((l.drop (7 * k)).take (m - 7 * k)) := by
        unfold allG
        congr 1
        by_cases h : 7 * k + 7 ≤ l.length
        · rw [show m - 7 * k = 7 by omega]
        · rw [List.take_of_length_le (by simp; omega), List.take_of_length_le (by simp; omega)]
      have e2 : rpsA ((List.range (k + 1)).map (allG l)) = rpsA ((List.range k).map (allG l)) ++ rpC (oneR ((l.drop (7 * k)).take (m - 7 * k))) := by
        rw [List.range_succ, List.map_append, rpsA_append, List.map_singleton, hone]; simp [rpsA]
      generalize hcs : rpsA ((List.range k).map (allG l)) = cs at e2
      refine Judg.run' 25 (orcC [(27, plainR (rpA (oneR ((l.drop (7 * k)).take (m - 7 * k)))))] [(6, .val (iA ((7 * k : Nat) : Int))), (9, .val (bA true)), (12, .val (bA true)), (19, .val (iA ((7 * k : Nat) : Int))), (23, .val (iA ((7 * k : Nat) : Int))), (24, .val (iA ((7 * k + 7 : Nat) : Int))), (25, .val (iA ((m : Nat) : Int))), (26, .val (rowI ((l.drop (7 * k)).take (m - 7 * k)))), (29, .grow 29 25 6 (k) (cs) (1) ([iA ((oneR ((l.drop (7 * k)).take (m - 7 * k))).id), iA ((oneR ((l.drop (7 * k)).take (m - 7 * k))).ver), rowI ((oneR ((l.drop (7 * k)).take (m - 7 * k))).args), rowE ((oneR ((l.drop (7 * k)).take (m - 7 * k))).events), bA ((oneR ((l.drop (7 * k)).take (m - 7 * k))).cut), iA ((oneR ((l.drop (7 * k)).take (m - 7 * k))).en)])), (15, .val (iA ((k + 1 : Nat) : Int)))]) (.go (stOf (runCode Try.prog (orcC [(27, plainR (rpA (oneR ((l.drop (7 * k)).take (m - 7 * k)))))] [(6, .val (iA ((7 * k : Nat) : Int))), (9, .val (bA true)), (12, .val (bA true)), (19, .val (iA ((7 * k : Nat) : Int))), (23, .val (iA ((7 * k : Nat) : Int))), (24, .val (iA ((7 * k + 7 : Nat) : Int))), (25, .val (iA ((m : Nat) : Int))), (26, .val (rowI ((l.drop (7 * k)).take (m - 7 * k)))), (29, .grow 29 25 6 (k) (cs) (1) ([iA ((oneR ((l.drop (7 * k)).take (m - 7 * k))).id), iA ((oneR ((l.drop (7 * k)).take (m - 7 * k))).ver), rowI ((oneR ((l.drop (7 * k)).take (m - 7 * k))).args), rowE ((oneR ((l.drop (7 * k)).take (m - 7 * k))).events), bA ((oneR ((l.drop (7 * k)).take (m - 7 * k))).cut), iA ((oneR ((l.drop (7 * k)).take (m - 7 * k))).en)])), (15, .val (iA ((k + 1 : Nat) : Int)))]) (liveOf 25) 0 (fB (post 2 C25)) (st25 l k cs)))) [pB .add 3 (.tmp 14) (.const (.int .i64 1)) (.int .i64 ((k : Nat) : Int)) (.int .i64 (1)) (iA ((k + 1 : Nat) : Int)), cmdAppend Try.prog 28 28 (.row (some (29, 25)) 6 (k) (cs)) (.row (some (28, 25)) 6 (1) ([iA ((oneR ((l.drop (7 * k)).take (m - 7 * k))).id), iA ((oneR ((l.drop (7 * k)).take (m - 7 * k))).ver), rowI ((oneR ((l.drop (7 * k)).take (m - 7 * k))).args), rowE ((oneR ((l.drop (7 * k)).take (m - 7 * k))).events), bA ((oneR ((l.drop (7 * k)).take (m - 7 * k))).cut), iA ((oneR ((l.drop (7 * k)).take (m - 7 * k))).en)])) = some (.grow 29 25 6 (k) (cs) (1) ([iA ((oneR ((l.drop (7 * k)).take (m - 7 * k))).id), iA ((oneR ((l.drop (7 * k)).take (m - 7 * k))).ver), rowI ((oneR ((l.drop (7 * k)).take (m - 7 * k))).args), rowE ((oneR ((l.drop (7 * k)).take (m - 7 * k))).events), bA ((oneR ((l.drop (7 * k)).take (m - 7 * k))).cut), iA ((oneR ((l.drop (7 * k)).take (m - 7 * k))).en)])), k * 6 = k * 6, Ok Try.prog 8 [rowI ((l.drop (7 * k)).take (m - 7 * k))] (plainR (rpA (oneR ((l.drop (7 * k)).take (m - 7 * k))))), cmdSlice Try.prog 22 (rowI l) (some (iA ((7 * k : Nat) : Int))) (some (iA ((m : Nat) : Int))) none = some (.val (rowI ((l.drop (7 * k)).take (m - 7 * k)))), pMin [3, 3] 3 (iA ((l.length : Nat) : Int)) (iA ((7 * k + 7 : Nat) : Int)) (iA ((m : Nat) : Int)), pB .add 3 (.tmp 23) (.const (.int .i64 7)) (.int .i64 ((7 * k : Nat) : Int)) (.int .i64 (7)) (iA ((7 * k + 7 : Nat) : Int)), pB .mul 3 (.const (.int .i64 7)) (.tmp 22) (.int .i64 (7)) (.int .i64 ((k : Nat) : Int)) (iA ((7 * k : Nat) : Int)), pB .mul 3 (.const (.int .i64 7)) (.tmp 18) (.int .i64 (7)) (.int .i64 ((k : Nat) : Int)) (iA ((7 * k : Nat) : Int)), pB .lss 3 (.tmp 11) (.const (.int .i64 8)) (.int .i64 ((k : Nat) : Int)) (.int .i64 (8)) (bA true), pB .lss 3 (.tmp 6) (.tmp 8) (.int .i64 ((7 * k : Nat) : Int)) (.int .i64 ((l.length : Nat) : Int)) (bA true), pB .mul 3 (.const (.int .i64 7)) (.tmp 5) (.int .i64 (7)) (.int .i64 ((k : Nat) : Int)) (iA ((7 * k : Nat) : Int))] (by kernel_rfl) (by kernel_rfl) (allc (hAdd _ _ _ _ _ _ (by simp) ⟨by omega, by omega⟩) (allc (el28.grow (rowOf_row _ _ _ _) (fits_of (by simp <;> omega) (by omega))) (allc (rfl) (allc (ok8 _ (by simp; omega) (fun x hx => hw x (List.mem_of_mem_drop (List.mem_of_mem_take hx)))) (allc (by rw [← rowI_sub l (7 * k) m (by omega) (by omega)]; exact el22.sl (rowOf_row _ _ _ _) (by omega) (by omega)) (allc (hMin _ _ _ _ _ hm) (allc (hAdd _ _ _ _ _ _ (by simp) ⟨by omega, by omega⟩) (allc (hMul _ _ _ _ _ _ (by simp) ⟨by omega, by omega⟩) (allc (hMul _ _ _ _ _ _ (by simp) ⟨by omega, by omega⟩) (allc (hLss _ _ _ _ _ _ (decide_eq_true (by omega))) (allc (hLss _ _ _ _ _ _ (decide_eq_true (by omega))) (allc (hMul _ _ _ _ _ _ (by simp) ⟨by omega, by omega⟩) allnil)))))))))))) ⟨k + 1, ⟨by omega, by omega⟩, by omega, ?_⟩
      simp only [e2]
      kernel_rfl
    · rw [fin (.inl (by omega))]
      generalize rpsA ((List.range k).map (allG l)) = cs
      refine Judg.run' 25 (orc [(6, .val (iA ((7 * k : Nat) : Int))), (9, .val (bA true)), (12, .val (bA false))]) (.exit 0 (stOf (runCode Try.prog (orc [(6, .val (iA ((7 * k : Nat) : Int))), (9, .val (bA true)), (12, .val (bA false))]) (liveOf 25) 0 (fB (post 2 C25)) (st25 l k cs)))) [pB .lss 3 (.tmp 11) (.const (.int .i64 8)) (.int .i64 ((k : Nat) : Int)) (.int .i64 (8)) (bA false), pB .lss 3 (.tmp 6) (.tmp 8) (.int .i64 ((7 * k : Nat) : Int)) (.int .i64 ((l.length : Nat) : Int)) (bA true), pB .mul 3 (.const (.int .i64 7)) (.tmp 5) (.int .i64 (7)) (.int .i64 ((k : Nat) : Int)) (iA ((7 * k : Nat) : Int))] (by kernel_rfl) (by kernel_rfl) (allc (hLss _ _ _ _ _ _ (decide_eq_false (by omega))) (allc (hLss _ _ _ _ _ _ (decide_eq_true (by omega))) (allc (hMul _ _ _ _ _ _ (by simp) ⟨by omega, by omega⟩) allnil))) ?_
      show Judg (fK (post 2 C25)) _ _
      exact Judg.run' 25 (orc []) (.ret (stOf (runCode Try.prog (orc []) (liveOf 25) 0 (fK (post 2 C25)) ((stOf (runCode Try.prog (orc [(6, .val (iA ((7 * k : Nat) : Int))), (9, .val (bA true)), (12, .val (bA false))]) (liveOf 25) 0 (fB (post 2 C25)) (st25 l k cs))))))) [pB .lss 3 (.tmp 11) (.const (.int .i64 8)) (.int .i64 ((k : Nat) : Int)) (.int .i64 (8)) (bA false), pB .lss 3 (.tmp 6) (.tmp 8) (.int .i64 ((7 * k : Nat) : Int)) (.int .i64 ((l.length : Nat) : Int)) (bA true), pB .mul 3 (.const (.int .i64 7)) (.tmp 5) (.int .i64 (7)) (.int .i64 ((k : Nat) : Int)) (iA ((7 * k : Nat) : Int))] (by kernel_rfl) (by kernel_rfl) (allc (hLss _ _ _ _ _ _ (decide_eq_false (by omega))) (allc (hLss _ _ _ _ _ _ (decide_eq_true (by omega))) (allc (hMul _ _ _ _ _ _ (by simp) ⟨by omega, by omega⟩) allnil))) (fin_retW (l := [k * 6 = k * 6]) _ (by kernel_rfl) (all1 rfl) (ResImp.refl _))
  · rw [fin (.inr h7)]
    generalize rpsA ((List.range k).map (allG l)) = cs
    refine Judg.run' 25 (orc [(6, .val (iA ((7 * k : Nat) : Int))), (9, .val (bA false))]) (.exit 0 (stOf (runCode Try.prog (orc [(6, .val (iA ((7 * k : Nat) : Int))), (9, .val (bA false))]) (liveOf 25) 0 (fB (post 2 C25)) (st25 l k cs)))) [pB .lss 3 (.tmp 6) (.tmp 8) (.int .i64 ((7 * k : Nat) : Int)) (.int .i64 ((l.length : Nat) : Int)) (bA false), pB .mul 3 (.const (.int .i64 7)) (.tmp 5) (.int .i64 (7)) (.int .i64 ((k : Nat) : Int)) (iA ((7 * k : Nat) : Int))] (by kernel_rfl) (by kernel_rfl) (allc (hLss _ _ _ _ _ _ (decide_eq_false (by omega))) (allc (hMul _ _ _ _ _ _ (by simp) ⟨by omega, by omega⟩) allnil)) ?_
    show Judg (fK (post 2 C25)) _ _
    exact Judg.run' 25 (orc []) (.ret (stOf (runCode Try.prog (orc []) (liveOf 25) 0 (fK (post 2 C25)) ((stOf (runCode Try.prog (orc [(6, .val (iA ((7 * k : Nat) : Int))), (9, .val (bA false))]) (liveOf 25) 0 (fB (post 2 C25)) (st25 l k cs))))))) [pB .lss 3 (.tmp 6) (.tmp 8) (.int .i64 ((7 * k : Nat) : Int)) (.int .i64 ((l.length : Nat) : Int)) (bA false), pB .mul 3 (.const (.int .i64 7)) (.tmp 5) (.int .i64 (7)) (.int .i64 ((k : Nat) : Int)) (iA ((7 * k : Nat) : Int))] (by kernel_rfl) (by kernel_rfl) (allc (hLss _ _ _ _ _ _ (decide_eq_false (by omega))) (allc (hMul _ _ _ _ _ _ (by simp) ⟨by omega, by omega⟩) allnil)) (fin_retW (l := [k * 6 = k * 6]) _ (by kernel_rfl) (all1 rfl) (ResImp.refl _))
end Go.Proofs.Ytlekojbcaelpiaa

/- scoriaref38.Merge. -/
namespace Go.Proofs.Ytlekojbcaelpiaa
open Go.RowKit
def gI : Code → Nat | .seq (.block id _) _ => id | _ => 0
def gB : Code → Code | .seq (.block _ (.loop b)) _ => b | _ => .skip
def gK : Code → Code | .seq _ k => k | _ => .skip
/-- a loop in a block, without a start -/
theorem Judg.forIn {ι : Type} (L N : List Nat) (st : ι → St) (μ : ι → Nat) (Pi : ι → Prop) {c : Code} (hc : c = .seq (.block (gI c) (.loop (gB c))) (gK c)) {s : St} {Q : Out → Prop}
    (i0 : ι) (h0 : Pi i0) (hs0 : Ytlekojbcaelpiaa.clean L N s = st i0)
    (step : ∀ i, Pi i → Judg (gB c) (st i) (endOf (gI c) (gK c) Q fun s' => ∃ j, Pi j ∧ μ j < μ i ∧ Ytlekojbcaelpiaa.clean L N s' = st j)) : Judg c s Q := by
  rw [hc]
  refine Judg.blockSeq (Judg.loop (fun n s => ∃ i, Pi i ∧ n = μ i ∧ Ytlekojbcaelpiaa.clean L N s = st i) ⟨i0, h0, rfl, hs0⟩ ?_)
  rintro n s' ⟨i, hi, rfl, hs⟩
  refine (Judg.clean hs (step i hi)).mono fun o ho => ?_
  cases o with
  | go s2 =>
    obtain ⟨j, h1, h2, h3⟩ := ho
    exact ⟨μ j, h2, j, h1, rfl, h3⟩
  | exit id' s2 =>
    simp only [endOf] at ho ⊢
    split
    · rename_i e; rw [if_pos e] at ho; exact ho
    · rename_i e; rw [if_neg e] at ho; exact ho
  | ret s2 => exact ho
def posR (out : List Rp) (d : Int) : Nat := (out.takeWhile fun y => decide (y.id < d)).length
theorem posR_le (out : List Rp) (d : Int) : posR out d ≤ out.length := (List.takeWhile_sublist _).length_le
/-- one more report, if it is valid and its number is new -/
def insR (out : List Rp) (x : Rp) : List Rp :=
  if validB x = false then out else if (out[posR out x.id]?).map (·.id) = some x.id then out else out.take (posR out x.id) ++ x :: out.drop (posR out x.id)
def foldR (l : List Rp) : List Rp := l.foldl insR []
def wrongR (con : Rp → Rp → Bool) (out : List Rp) : List Int := (out.filter fun x => out.any fun y => con x y).map (·.id)
theorem rowR_lo (out : List Rp) (k : Nat) (h : k ≤ out.length) : cmdSlice Try.prog 28 (rowR out) (some (iA k)) none none = some (.val (.row none 6 (out.length - k) (rpsA (out.drop k)))) := by
  unfold rowR
  rw [el28.slLo (rowOf_row _ _ _ _) h, rpsA_drop, List.take_of_length_le (by rw [rpsA_length, List.length_drop]; exact Nat.le_refl _)]
theorem rowR_hi (out : List Rp) (k : Nat) (h : k ≤ out.length) : cmdSlice Try.prog 28 (rowR out) none (some (iA k)) none = some (.val (.row none 6 k (rpsA (out.take k)))) := by
  unfold rowR
  rw [el28.slHi (rowOf_row _ _ _ _) h, rpsA_take]
theorem posR_step {out : List Rp} {d : Int} {k : Nat} {y : Rp} (hy : out[k]? = some y) (hk : k ≤ posR out d) : y.id < d → k + 1 ≤ posR out d := fun hlt => by
  unfold posR at *
  induction out generalizing k with
  | nil => simp at hy
  | cons z out ih =>
    cases k with
    | zero => simp at hy; subst hy; rw [List.takeWhile_cons, if_pos (by simpa using hlt)]; simp
    | succ k =>
      rw [List.takeWhile_cons] at hk ⊢
      split at hk
      · rename_i h; rw [if_pos h]; simp at hk hy ⊢; exact ih hy hk
      · simp at hk
theorem posR_stop {out : List Rp} {d : Int} {k : Nat} {y : Rp} (hy : out[k]? = some y) (hk : k ≤ posR out d) (hn : ¬ y.id < d) : posR out d = k := by
  unfold posR at *
  induction out generalizing k with
  | nil => simp at hy
  | cons z out ih =>
    cases k with
    | zero => simp at hy; subst hy; rw [List.takeWhile_cons, if_neg (by simpa using hn)]; rfl
    | succ k =>
      rw [List.takeWhile_cons] at hk ⊢
      split at hk
      · rename_i h; rw [if_pos h]; simp at hk hy ⊢; exact ih hy hk
      · simp at hk
noncomputable abbrev C28 : Code := bodyOf Try.f28
noncomputable abbrev B28 : Code := fB (post 2 C28)
noncomputable abbrev X28 : Code := bX (sX (sY B28))
noncomputable abbrev I28 : Code := post 2 X28
def st28 (l : List Rp) (i : Nat) (a : AV) : St := { n := 111, slots := [(0, rowR l), (4, a), (5, iA ((i : Nat) : Int))], objs := [], lens := [] }
def st28b (l out : List Rp) (i k : Nat) : St := { n := 111, slots := [(0, rowR l), (4, rowR out), (5, iA ((i : Nat) : Int)), (6, iA ((k : Nat) : Int))], objs := [], lens := [] }
theorem me_rest (l out : List Rp) (i k : Nat) (x : Rp) (hx : l[i]? = some x) (hv : validB x = true) (hpos : posR out x.id = k) (hk : k ≤ out.length) (hlo : out.length ≤ 1000000) (hli : i ≤ 1000000) {Q : Out → Prop}
    (q : ∀ s', clean [0, 4, 5] [] s' = st28 l (i + 1) (rowR (insR out x)) → Q (.go s')) : Judg (gK I28) (st28b l out i k) (fun o => match o with | .exit id' s' => if id' = bI (sX (sY B28)) then Judg (sY (sY B28)) s' Q else Q o | .go s' => Judg (sY (sY B28)) s' Q | o => Q o) := by
  have hrow : .row none 6 (k + 1 + (out.length - k)) (rpsA (out.take k) ++ [iA (x.id), iA (x.ver), rowI x.args, rowE x.events, bA (x.cut), iA (x.en)] ++ rpsA (out.drop k)) = rowR (out.take k ++ x :: out.drop k) := by
    unfold rowR
    have e1 : (out.take k ++ x :: out.drop k).length = k + 1 + (out.length - k) := by simp; omega
    have e2 : rpsA (out.take k ++ x :: out.drop k) = rpsA (out.take k) ++ [iA (x.id), iA (x.ver), rowI x.args, rowE x.events, bA (x.cut), iA (x.en)] ++ rpsA (out.drop k) := by
      rw [rpsA_append, rpsA_cons, List.append_assoc]; rfl
    rw [e1, e2]
  by_cases hlt : k < out.length
  · obtain ⟨y, hy⟩ : ∃ y, out[k]? = some y := ⟨out[k], List.getElem?_eq_getElem hlt⟩
    by_cases he : y.id = x.id
    · refine Judg.run' 28 (orc [(46, .val (bA true)), (50, .val (.rptr (iA (y.id) :: iA (y.ver) :: rowI y.args :: rowE y.events :: bA (y.cut) :: iA (y.en) :: rpsA (out.drop (k + 1))))), (55, .val (.rptr (iA (x.id) :: iA (x.ver) :: rowI x.args :: rowE x.events :: bA (x.cut) :: iA (x.en) :: rpsA (l.drop (i + 1))))), (58, .val (bA true))]) (.exit 1 (stOf (runCode Try.prog (orc [(46, .val (bA true)), (50, .val (.rptr (iA (y.id) :: iA (y.ver) :: rowI y.args :: rowE y.events :: bA (y.cut) :: iA (y.en) :: rpsA (out.drop (k + 1))))), (55, .val (.rptr (iA (x.id) :: iA (x.ver) :: rowI x.args :: rowE x.events :: bA (x.cut) :: iA (x.en) :: rpsA (l.drop (i + 1))))), (58, .val (bA true))]) (liveOf 28) 0 (gK I28) (st28b l out i k)))) [pB .eql 3 (.tmp 52) (.tmp 57) (.int .i64 (y.id)) (.int .i64 (x.id)) (bA true), cmdIndexAddr Try.prog 28 (rowR l) (iA ((i : Nat) : Int)) = some (.val (.rptr (iA (x.id) :: iA (x.ver) :: rowI x.args :: rowE x.events :: bA (x.cut) :: iA (x.en) :: rpsA (l.drop (i + 1))))), cmdIndexAddr Try.prog 28 (rowR out) (iA ((k : Nat) : Int)) = some (.val (.rptr (iA (y.id) :: iA (y.ver) :: rowI y.args :: rowE y.events :: bA (y.cut) :: iA (y.en) :: rpsA (out.drop (k + 1))))), pB .lss 3 (.tmp 43) (.tmp 45) (.int .i64 ((k : Nat) : Int)) (.int .i64 ((out.length : Nat) : Int)) (bA true)] (by kernel_rfl) (by kernel_rfl) (allc (hEql _ _ _ _ _ _ ((by rw [beq_iff_eq]; omega))) (allc (el28.idxR hx) (allc (el28.idxR hy) (allc (hLss _ _ _ _ _ _ (decide_eq_true (by omega))) allnil)))) ?_
      show Judg (sY (sY B28)) _ _
      refine Judg.run' 28 (orc [(17, .val (iA ((i + 1 : Nat) : Int)))]) (.go (stOf (runCode Try.prog (orc [(17, .val (iA ((i + 1 : Nat) : Int)))]) (liveOf 28) 0 (sY (sY B28)) ((stOf (runCode Try.prog (orc [(46, .val (bA true)), (50, .val (.rptr (iA (y.id) :: iA (y.ver) :: rowI y.args :: rowE y.events :: bA (y.cut) :: iA (y.en) :: rpsA (out.drop (k + 1))))), (55, .val (.rptr (iA (x.id) :: iA (x.ver) :: rowI x.args :: rowE x.events :: bA (x.cut) :: iA (x.en) :: rpsA (l.drop (i + 1))))), (58, .val (bA true))]) (liveOf 28) 0 (gK I28) (st28b l out i k))))))) [pB .add 3 (.tmp 16) (.const (.int .i64 1)) (.int .i64 ((i : Nat) : Int)) (.int .i64 (1)) (iA ((i + 1 : Nat) : Int)), pB .eql 3 (.tmp 52) (.tmp 57) (.int .i64 (y.id)) (.int .i64 (x.id)) (bA true), cmdIndexAddr Try.prog 28 (rowR l) (iA ((i : Nat) : Int)) = some (.val (.rptr (iA (x.id) :: iA (x.ver) :: rowI x.args :: rowE x.events :: bA (x.cut) :: iA (x.en) :: rpsA (l.drop (i + 1))))), cmdIndexAddr Try.prog 28 (rowR out) (iA ((k : Nat) : Int)) = some (.val (.rptr (iA (y.id) :: iA (y.ver) :: rowI y.args :: rowE y.events :: bA (y.cut) :: iA (y.en) :: rpsA (out.drop (k + 1))))), pB .lss 3 (.tmp 43) (.tmp 45) (.int .i64 ((k : Nat) : Int)) (.int .i64 ((out.length : Nat) : Int)) (bA true)] (by kernel_rfl) (by kernel_rfl) (allc (hAdd _ _ _ _ _ _ (by simp) ⟨by omega, by omega⟩) (allc (hEql _ _ _ _ _ _ ((by rw [beq_iff_eq]; omega))) (allc (el28.idxR hx) (allc (el28.idxR hy) (allc (hLss _ _ _ _ _ _ (decide_eq_true (by omega))) allnil))))) ?_
      refine q _ ?_
      unfold insR
      rw [if_neg (by simp [hv]), hpos, if_pos (by rw [hy]; simp [he])]
      kernel_rfl
    · refine Judg.run' 28 (orc [(46, .val (bA true)), (50, .val (.rptr (iA (y.id) :: iA (y.ver) :: rowI y.args :: rowE y.events :: bA (y.cut) :: iA (y.en) :: rpsA (out.drop (k + 1))))), (55, .val (.rptr (iA (x.id) :: iA (x.ver) :: rowI x.args :: rowE x.events :: bA (x.cut) :: iA (x.en) :: rpsA (l.drop (i + 1))))), (58, .val (bA false)), (63, .val (.row none 6 (k) (rpsA (out.take k)))), (64, .fresh 25 6 (k) (rpsA (out.take k))), (67, .val (.rptr (iA (x.id) :: iA (x.ver) :: rowI x.args :: rowE x.events :: bA (x.cut) :: iA (x.en) :: rpsA (l.drop (i + 1))))), (70, .grow 64 25 6 (k) (rpsA (out.take k)) (1) ([iA (x.id), iA (x.ver), rowI x.args, rowE x.events, bA (x.cut), iA (x.en)])), (74, .val (.row none 6 (out.length - k) (rpsA (out.drop k)))), (75, .grow 64 25 6 (k + 1) (rpsA (out.take k) ++ [iA (x.id), iA (x.ver), rowI x.args, rowE x.events, bA (x.cut), iA (x.en)]) (out.length - k) (rpsA (out.drop k)))]) (.go (stOf (runCode Try.prog (orc [(46, .val (bA true)), (50, .val (.rptr (iA (y.id) :: iA (y.ver) :: rowI y.args :: rowE y.events :: bA (y.cut) :: iA (y.en) :: rpsA (out.drop (k + 1))))), (55, .val (.rptr (iA (x.id) :: iA (x.ver) :: rowI x.args :: rowE x.events :: bA (x.cut) :: iA (x.en) :: rpsA (l.drop (i + 1))))), (58, .val (bA false)), (63, .val (.row none 6 (k) (rpsA (out.take k)))), (64, .fresh 25 6 (k) (rpsA (out.take k))), (67, .val (.rptr (iA (x.id) :: iA (x.ver) :: rowI x.args :: rowE x.events :: bA (x.cut) :: iA (x.en) :: rpsA (l.drop (i + 1))))), (70, .grow 64 25 6 (k) (rpsA (out.take k)) (1) ([iA (x.id), iA (x.ver), rowI x.args, rowE x.events, bA (x.cut), iA (x.en)])), (74, .val (.row none 6 (out.length - k) (rpsA (out.drop k)))), (75, .grow 64 25 6 (k + 1) (rpsA (out.take k) ++ [iA (x.id), iA (x.ver), rowI x.args, rowE x.events, bA (x.cut), iA (x.en)]) (out.length - k) (rpsA (out.drop k)))]) (liveOf 28) 0 (gK I28) (st28b l out i k)))) [cmdAppend Try.prog 28 28 (.row (some (64, 25)) 6 (k + 1) (rpsA (out.take k) ++ [iA (x.id), iA (x.ver), rowI x.args, rowE x.events, bA (x.cut), iA (x.en)])) (.row none 6 (out.length - k) (rpsA (out.drop k))) = some (.grow 64 25 6 (k + 1) (rpsA (out.take k) ++ [iA (x.id), iA (x.ver), rowI x.args, rowE x.events, bA (x.cut), iA (x.en)]) (out.length - k) (rpsA (out.drop k))), (k + 1) * 6 = (k + 1) * 6, cmdSlice Try.prog 28 (rowR out) (some (iA ((k : Nat) : Int))) none none = some (.val (.row none 6 (out.length - k) (rpsA (out.drop k)))), cmdAppend Try.prog 28 28 (.row (some (64, 25)) 6 (k) (rpsA (out.take k))) (.row (some (69, 25)) 6 (1) ([iA (x.id), iA (x.ver), rowI x.args, rowE x.events, bA (x.cut), iA (x.en)])) = some (.grow 64 25 6 (k) (rpsA (out.take k)) (1) ([iA (x.id), iA (x.ver), rowI x.args, rowE x.events, bA (x.cut), iA (x.en)])), k * 6 = k * 6, cmdIndexAddr Try.prog 28 (rowR l) (iA ((i : Nat) : Int)) = some (.val (.rptr (iA (x.id) :: iA (x.ver) :: rowI x.args :: rowE x.events :: bA (x.cut) :: iA (x.en) :: rpsA (l.drop (i + 1))))), cmdAppend Try.prog 28 28 (.sc (.slice none 0 0)) (.row none 6 (k) (rpsA (out.take k))) = some (.fresh 25 6 (k) (rpsA (out.take k))), cmdSlice Try.prog 28 (rowR out) none (some (iA ((k : Nat) : Int))) none = some (.val (.row none 6 (k) (rpsA (out.take k)))), pB .eql 3 (.tmp 52) (.tmp 57) (.int .i64 (y.id)) (.int .i64 (x.id)) (bA false), cmdIndexAddr Try.prog 28 (rowR l) (iA ((i : Nat) : Int)) = some (.val (.rptr (iA (x.id) :: iA (x.ver) :: rowI x.args :: rowE x.events :: bA (x.cut) :: iA (x.en) :: rpsA (l.drop (i + 1))))), cmdIndexAddr Try.prog 28 (rowR out) (iA ((k : Nat) : Int)) = some (.val (.rptr (iA (y.id) :: iA (y.ver) :: rowI y.args :: rowE y.events :: bA (y.cut) :: iA (y.en) :: rpsA (out.drop (k + 1))))), pB .lss 3 (.tmp 43) (.tmp 45) (.int .i64 ((k : Nat) : Int)) (.int .i64 ((out.length : Nat) : Int)) (bA true)] (by kernel_rfl) (by kernel_rfl) (allc (el28.grow (rowOf_row _ _ _ _) (fits_of (by omega) (by omega))) (allc (rfl) (allc (rowR_lo out k (by omega)) (allc (el28.grow (rowOf_row _ _ _ _) (fits_of (by omega) (by omega))) (allc (rfl) (allc (el28.idxR hx) (allc (el28.nil (rowOf_row _ _ _ _) (fits_of (by omega) (by omega))) (allc (rowR_hi out k (by omega)) (allc (hEql _ _ _ _ _ _ ((by rw [beq_eq_false_iff_ne]; omega))) (allc (el28.idxR hx) (allc (el28.idxR hy) (allc (hLss _ _ _ _ _ _ (decide_eq_true (by omega))) allnil)))))))))))) ?_
      show Judg (sY (sY B28)) _ _
      refine Judg.run' 28 (orc [(17, .val (iA ((i + 1 : Nat) : Int)))]) (.go (stOf (runCode Try.prog (orc [(17, .val (iA ((i + 1 : Nat) : Int)))]) (liveOf 28) 0 (sY (sY B28)) ((stOf (runCode Try.prog (orc [(46, .val (bA true)), (50, .val (.rptr (iA (y.id) :: iA (y.ver) :: rowI y.args :: rowE y.events :: bA (y.cut) :: iA (y.en) :: rpsA (out.drop (k + 1))))), (55, .val (.rptr (iA (x.id) :: iA (x.ver) :: rowI x.args :: rowE x.events :: bA (x.cut) :: iA (x.en) :: rpsA (l.drop (i + 1))))), (58, .val (bA false)), (63, .val (.row none 6 (k) (rpsA (out.take k)))), (64, .fresh 25 6 (k) (rpsA (out.take k))), (67, .val (.rptr (iA (x.id) :: iA (x.ver) :: rowI x.args :: rowE x.events :: bA (x.cut) :: iA (x.en) :: rpsA (l.drop (i + 1))))), (70, .grow 64 25 6 (k) (rpsA (out.take k)) (1) ([iA (x.id), iA (x.ver), rowI x.args, rowE x.events, bA (x.cut), iA (x.en)])), (74, .val (.row none 6 (out.length - k) (rpsA (out.drop k)))), (75, .grow 64 25 6 (k + 1) (rpsA (out.take k) ++ [iA (x.id), iA (x.ver), rowI x.args, rowE x.events, bA (x.cut), iA (x.en)]) (out.length - k) (rpsA (out.drop k)))]) (liveOf 28) 0 (gK I28) (st28b l out i k))))))) [pB .add 3 (.tmp 16) (.const (.int .i64 1)) (.int .i64 ((i : Nat) : Int)) (.int .i64 (1)) (iA ((i + 1 : Nat) : Int)), cmdAppend Try.prog 28 28 (.row (some (64, 25)) 6 (k + 1) (rpsA (out.take k) ++ [iA (x.id), iA (x.ver), rowI x.args, rowE x.events, bA (x.cut), iA (x.en)])) (.row none 6 (out.length - k) (rpsA (out.drop k))) = some (.grow 64 25 6 (k + 1) (rpsA (out.take k) ++ [iA (x.id), iA (x.ver), rowI x.args, rowE x.events, bA (x.cut), iA (x.en)]) (out.length - k) (rpsA (out.drop k))), (k + 1) * 6 = (k + 1) * 6, cmdSlice Try.prog 28 (rowR out) (some (iA ((k : Nat) : Int))) none none = some (.val (.row none 6 (out.length - k) (rpsA (out.drop k)))), cmdAppend Try.prog 28 28 (.row (some (64, 25)) 6 (k) (rpsA (out.take k))) (.row (some (69, 25)) 6 (1) ([iA (x.id), iA (x.ver), rowI x.args, rowE x.events, bA (x.cut), iA (x.en)])) = some (.grow 64 25 6 (k) (rpsA (out.take k)) (1) ([iA (x.id), iA (x.ver), rowI x.args, rowE x.events, bA (x.cut), iA (x.en)])), k * 6 = k * 6, cmdIndexAddr Try.prog 28 (rowR l) (iA ((i : Nat) : Int)) = some (.val (.rptr (iA (x.id) :: iA (x.ver) :: rowI x.args :: rowE x.events :: bA (x.cut) :: iA (x.en) :: rpsA (l.drop (i + 1))))), cmdAppend Try.prog 28 28 (.sc (.slice none 0 0)) (.row none 6 (k) (rpsA (out.take k))) = some (.fresh 25 6 (k) (rpsA (out.take k))), cmdSlice Try.prog 28 (rowR out) none (some (iA ((k : Nat) : Int))) none = some (.val (.row none 6 (k) (rpsA (out.take k)))), pB .eql 3 (.tmp 52) (.tmp 57) (.int .i64 (y.id)) (.int .i64 (x.id)) (bA false), cmdIndexAddr Try.prog 28 (rowR l) (iA ((i : Nat) : Int)) = some (.val (.rptr (iA (x.id) :: iA (x.ver) :: rowI x.args :: rowE x.events :: bA (x.cut) :: iA (x.en) :: rpsA (l.drop (i + 1))))), cmdIndexAddr Try.prog 28 (rowR out) (iA ((k : Nat) : Int)) = some (.val (.rptr (iA (y.id) :: iA (y.ver) :: rowI y.args :: rowE y.events :: bA (y.cut) :: iA (y.en) :: rpsA (out.drop (k + 1))))), pB .lss 3 (.tmp 43) (.tmp 45) (.int .i64 ((k : Nat) : Int)) (.int .i64 ((out.length : Nat) : Int)) (bA true)] (by kernel_rfl) (by kernel_rfl) (allc (hAdd _ _ _ _ _ _ (by simp) ⟨by omega, by omega⟩) (allc (el28.grow (rowOf_row _ _ _ _) (fits_of (by omega) (by omega))) (allc (rfl) (allc (rowR_lo out k (by omega)) (allc (el28.grow (rowOf_row _ _ _ _) (fits_of (by omega) (by omega))) (allc (rfl) (allc (el28.idxR hx) (allc (el28.nil (rowOf_row _ _ _ _) (fits_of (by omega) (by omega))) (allc (rowR_hi out k (by omega)) (allc (hEql _ _ _ _ _ _ ((by rw [beq_eq_false_iff_ne]; omega))) (allc (el28.idxR hx) (allc (el28.idxR hy) (allc (hLss _ _ _ _ _ _ (decide_eq_true (by omega))) allnil))))))))))))) ?_
      refine q _ ?_
      unfold insR
      rw [if_neg (by simp [hv]), hpos, if_neg (by rw [hy]; simp [he]), ← hrow]
      kernel_rfl
  · refine Judg.run' 28 (orc [(46, .val (bA false)), (63, .val (.row none 6 (k) (rpsA (out.take k)))), (64, .fresh 25 6 (k) (rpsA (out.take k))), (67, .val (.rptr (iA (x.id) :: iA (x.ver) :: rowI x.args :: rowE x.events :: bA (x.cut) :: iA (x.en) :: rpsA (l.drop (i + 1))))), (70, .grow 64 25 6 (k) (rpsA (out.take k)) (1) ([iA (x.id), iA (x.ver), rowI x.args, rowE x.events, bA (x.cut), iA (x.en)])), (74, .val (.row none 6 (out.length - k) (rpsA (out.drop k)))), (75, .grow 64 25 6 (k + 1) (rpsA (out.take k) ++ [iA (x.id), iA (x.ver), rowI x.args, rowE x.events, bA (x.cut), iA (x.en)]) (out.length - k) (rpsA (out.drop k)))]) (.go (stOf (runCode Try.prog (orc [(46, .val (bA false)), (63, .val (.row none 6 (k) (rpsA (out.take k)))), (64, .fresh 25 6 (k) (rpsA (out.take k))), (67, .val (.rptr (iA (x.id) :: iA (x.ver) :: rowI x.args :: rowE x.events :: bA (x.cut) :: iA (x.en) :: rpsA (l.drop (i + 1))))), (70, .grow 64 25 6 (k) (rpsA (out.take k)) (1) ([iA (x.id), iA (x.ver), rowI x.args, rowE x.events, bA (x.cut), iA (x.en)])), (74, .val (.row none 6 (out.length - k) (rpsA (out.drop k)))), (75, .grow 64 25 6 (k + 1) (rpsA (out.take k) ++ [iA (x.id), iA (x.ver), rowI x.args, rowE x.events, bA (x.cut), iA (x.en)]) (out.length - k) (rpsA (out.drop k)))]) (liveOf 28) 0 (gK I28) (st28b l out i k)))) [cmdAppend Try.prog 28 28 (.row (some (64, 25)) 6 (k + 1) (rpsA (out.take k) ++ [iA (x.id), iA (x.ver), rowI x.args, rowE x.events, bA (x.cut), iA (x.en)])) (.row none 6 (out.length - k) (rpsA (out.drop k))) = some (.grow 64 25 6 (k + 1) (rpsA (out.take k) ++ [iA (x.id), iA (x.ver), rowI x.args, rowE x.events, bA (x.cut), iA (x.en)]) (out.length - k) (rpsA (out.drop k))), (k + 1) * 6 = (k + 1) * 6, cmdSlice Try.prog 28 (rowR out) (some (iA ((k : Nat) : Int))) none none = some (.val (.row none 6 (out.length - k) (rpsA (out.drop k)))), cmdAppend Try.prog 28 28 (.row (some (64, 25)) 6 (k) (rpsA (out.take k))) (.row (some (69, 25)) 6 (1) ([iA (x.id), iA (x.ver), rowI x.args, rowE x.events, bA (x.cut), iA (x.en)])) = some (.grow 64 25 6 (k) (rpsA (out.take k)) (1) ([iA (x.id), iA (x.ver), rowI x.args, rowE x.events, bA (x.cut), iA (x.en)])), k * 6 = k * 6, cmdIndexAddr Try.prog 28 (rowR l) (iA ((i : Nat) : Int)) = some (.val (.rptr (iA (x.id) :: iA (x.ver) :: rowI x.args :: rowE x.events :: bA (x.cut) :: iA (x.en) :: rpsA (l.drop (i + 1))))), cmdAppend Try.prog 28 28 (.sc (.slice none 0 0)) (.row none 6 (k) (rpsA (out.take k))) = some (.fresh 25 6 (k) (rpsA (out.take k))), cmdSlice Try.prog 28 (rowR out) none (some (iA ((k : Nat) : Int))) none = some (.val (.row none 6 (k) (rpsA (out.take k)))), pB .lss 3 (.tmp 43) (.tmp 45) (.int .i64 ((k : Nat) : Int)) (.int .i64 ((out.length : Nat) : Int)) (bA false)] (by kernel_rfl) (by kernel_rfl) (allc (el28.grow (rowOf_row _ _ _ _) (fits_of (by omega) (by omega))) (allc (rfl) (allc (rowR_lo out k (by omega)) (allc (el28.grow (rowOf_row _ _ _ _) (fits_of (by omega) (by omega))) (allc (rfl) (allc (el28.idxR hx) (allc (el28.nil (rowOf_row _ _ _ _) (fits_of (by omega) (by omega))) (allc (rowR_hi out k (by omega)) (allc (hLss _ _ _ _ _ _ (decide_eq_false (by omega))) allnil))))))))) ?_
    show Judg (sY (sY B28)) _ _
    refine Judg.run' 28 (orc [(17, .val (iA ((i + 1 : Nat) : Int)))]) (.go (stOf (runCode Try.prog (orc [(17, .val (iA ((i + 1 : Nat) : Int)))]) (liveOf 28) 0 (sY (sY B28)) ((stOf (runCode Try.prog (orc [(46, .val (bA false)), (63, .val (.row none 6 (k) (rpsA (out.take k)))), (64, .fresh 25 6 (k) (rpsA (out.take k))), (67, .val (.rptr (iA (x.id) :: iA (x.ver) :: rowI x.args :: rowE x.events :: bA (x.cut) :: iA (x.en) :: rpsA (l.drop (i + 1))))), (70, .grow 64 25 6 (k) (rpsA (out.take k)) (1) ([iA (x.id), iA (x.ver), rowI x.args, rowE x.events, bA (x.cut), iA (x.en)])), (74, .val (.row none 6 (out.length - k) (rpsA (out.drop k)))), (75, .grow 64 25 6 (k + 1) (rpsA (out.take k) ++ [iA (x.id), iA (x.ver), rowI x.args, rowE x.events, bA (x.cut), iA (x.en)]) (out.length - k) (rpsA (out.drop k)))]) (liveOf 28) 0 (gK I28) (st28b l out i k))))))) [pB .add 3 (.tmp 16) (.const (.int .i64 1)) (.int .i64 ((i : Nat) : Int)) (.int .i64 (1)) (iA ((i + 1 : Nat) : Int)), cmdAppend Try.prog 28 28 (.row (some (64, 25)) 6 (k + 1) (rpsA (out.take k) ++ [iA (x.id), iA (x.ver), rowI x.args, rowE x.events, bA (x.cut), iA (x.en)])) (.row none 6 (out.length - k) (rpsA (out.drop k))) = some (.grow 64 25 6 (k + 1) (rpsA (out.take k) ++ [iA (x.id), iA (x.ver), rowI x.args, rowE x.events, bA (x.cut), iA (x.en)]) (out.length - k) (rpsA (out.drop k))), (k + 1) * 6 = (k + 1) * 6, cmdSlice Try.prog 28 (rowR out) (some (iA ((k : Nat) : Int))) none none = some (.val (.row none 6 (out.length - k) (rpsA (out.drop k)))), cmdAppend Try.prog 28 28 (.row (some (64, 25)) 6 (k) (rpsA (out.take k))) (.row (some (69, 25)) 6 (1) ([iA (x.id), iA (x.ver), rowI x.args, rowE x.events, bA (x.cut), iA (x.en)])) = some (.grow 64 25 6 (k) (rpsA (out.take k)) (1) ([iA (x.id), iA (x.ver), rowI x.args, rowE x.events, bA (x.cut), iA (x.en)])), k * 6 = k * 6, cmdIndexAddr Try.prog 28 (rowR l) (iA ((i : Nat) : Int)) = some (.val (.rptr (iA (x.id) :: iA (x.ver) :: rowI x.args :: rowE x.events :: bA (x.cut) :: iA (x.en) :: rpsA (l.drop (i + 1))))), cmdAppend Try.prog 28 28 (.sc (.slice none 0 0)) (.row none 6 (k) (rpsA (out.take k))) = some (.fresh 25 6 (k) (rpsA (out.take k))), cmdSlice Try.prog 28 (rowR out) none (some (iA ((k : Nat) : Int))) none = some (.val (.row none 6 (k) (rpsA (out.take k)))), pB .lss 3 (.tmp 43) (.tmp 45) (.int .i64 ((k : Nat) : Int)) (.int .i64 ((out.length : Nat) : Int)) (bA false)] (by kernel_rfl) (by kernel_rfl) (allc (hAdd _ _ _ _ _ _ (by simp) ⟨by omega, by omega⟩) (allc (el28.grow (rowOf_row _ _ _ _) (fits_of (by omega) (by omega))) (allc (rfl) (allc (rowR_lo out k (by omega)) (allc (el28.grow (rowOf_row _ _ _ _) (fits_of (by omega) (by omega))) (allc (rfl) (allc (el28.idxR hx) (allc (el28.nil (rowOf_row _ _ _ _) (fits_of (by omega) (by omega))) (allc (rowR_hi out k (by omega)) (allc (hLss _ _ _ _ _ _ (decide_eq_false (by omega))) allnil)))))))))) ?_
    refine q _ ?_
    unfold insR
    rw [if_neg (by simp [hv]), hpos, if_neg (by rw [List.getElem?_eq_none (by omega)]; simp), ← hrow]
    kernel_rfl

theorem me_round (l out : List Rp) (i : Nat) (x : Rp) (hx : l[i]? = some x) (hf : Fit x) (hlo : out.length ≤ 1000000) (hll : l.length ≤ 1000000) {Q : Out → Prop}
    (q : ∀ s', clean [0, 4, 5] [] s' = st28 l (i + 1) (rowR (insR out x)) → Q (.go s')) : Judg B28 (st28 l i (rowR out)) Q := by
  have hil : i < l.length := (List.getElem?_eq_some_iff.1 hx).1
  have h12 := ok12 x hf
  cases hv : validB x with
  | false =>
    rw [hv] at h12
    refine Judg.run' 28 (orcC [(22, plainR (bA false))] [(15, .val (bA true)), (20, .val (.rptr (iA (x.id) :: iA (x.ver) :: rowI x.args :: rowE x.events :: bA (x.cut) :: iA (x.en) :: rpsA (l.drop (i + 1))))), (17, .val (iA ((i + 1 : Nat) : Int)))]) (.go (stOf (runCode Try.prog (orcC [(22, plainR (bA false))] [(15, .val (bA true)), (20, .val (.rptr (iA (x.id) :: iA (x.ver) :: rowI x.args :: rowE x.events :: bA (x.cut) :: iA (x.en) :: rpsA (l.drop (i + 1))))), (17, .val (iA ((i + 1 : Nat) : Int)))]) (liveOf 28) 0 (B28) (st28 l i (rowR out))))) [pB .add 3 (.tmp 16) (.const (.int .i64 1)) (.int .i64 ((i : Nat) : Int)) (.int .i64 (1)) (iA ((i + 1 : Nat) : Int)), Ok Try.prog 12 [.agg [iA (x.id), iA (x.ver), rowI x.args, rowE x.events, bA (x.cut), iA (x.en)]] (plainR (bA false)), cmdIndexAddr Try.prog 28 (rowR l) (iA ((i : Nat) : Int)) = some (.val (.rptr (iA (x.id) :: iA (x.ver) :: rowI x.args :: rowE x.events :: bA (x.cut) :: iA (x.en) :: rpsA (l.drop (i + 1))))), pB .lss 3 (.tmp 12) (.tmp 14) (.int .i64 ((i : Nat) : Int)) (.int .i64 ((l.length : Nat) : Int)) (bA true)] (by kernel_rfl) (by kernel_rfl) (allc (hAdd _ _ _ _ _ _ (by simp) ⟨by omega, by omega⟩) (allc (h12) (allc (el28.idxR hx) (allc (hLss _ _ _ _ _ _ (decide_eq_true (by omega))) allnil)))) ?_
    refine q _ ?_
    unfold insR
    rw [if_pos hv]
    kernel_rfl
  | true =>
    rw [hv] at h12
    refine Judg.seqE (by kernel_rfl) (Judg.run' 28 (orc [(15, .val (bA true))]) (.go (stOf (runCode Try.prog (orc [(15, .val (bA true))]) (liveOf 28) 0 (sX B28) (st28 l i (rowR out))))) [pB .lss 3 (.tmp 12) (.tmp 14) (.int .i64 ((i : Nat) : Int)) (.int .i64 ((l.length : Nat) : Int)) (bA true)] (by kernel_rfl) (by kernel_rfl) (allc (hLss _ _ _ _ _ _ (decide_eq_true (by omega))) allnil) ?_)
    show Judg (sY B28) _ _
    refine Judg.clean (L := [0, 4, 5]) (N := []) (t := st28 l i (rowR out)) (by kernel_rfl) ?_
    refine Judg.seqE (by kernel_rfl) (Judg.blockE (by kernel_rfl) ?_)
    refine Judg.pre' 28 (orcC [(22, plainR (bA true))] [(20, .val (.rptr (iA (x.id) :: iA (x.ver) :: rowI x.args :: rowE x.events :: bA (x.cut) :: iA (x.en) :: rpsA (l.drop (i + 1)))))]) 2 (stOf (runCode Try.prog (orcC [(22, plainR (bA true))] [(20, .val (.rptr (iA (x.id) :: iA (x.ver) :: rowI x.args :: rowE x.events :: bA (x.cut) :: iA (x.en) :: rpsA (l.drop (i + 1)))))]) (liveOf 28) 0 (Ytlekojbcaelpiaa.pre 2 X28) (st28 l i (rowR out)))) [Ok Try.prog 12 [.agg [iA (x.id), iA (x.ver), rowI x.args, rowE x.events, bA (x.cut), iA (x.en)]] (plainR (bA true)), cmdIndexAddr Try.prog 28 (rowR l) (iA ((i : Nat) : Int)) = some (.val (.rptr (iA (x.id) :: iA (x.ver) :: rowI x.args :: rowE x.events :: bA (x.cut) :: iA (x.en) :: rpsA (l.drop (i + 1)))))] (by kernel_rfl) (by kernel_rfl) (allc (h12) (allc (el28.idxR hx) allnil)) ?_
    refine Judg.forIn (ι := Nat) [0, 4, 5, 6] [] (fun k => st28b l out i k) (fun k => out.length - k) (fun k => k ≤ out.length ∧ k ≤ posR out x.id) (by kernel_rfl) 0 ⟨by omega, by omega⟩ (by kernel_rfl) ?_
    rintro k ⟨hk, hkp⟩
    by_cases hlt : k < out.length
    · obtain ⟨y, hy⟩ : ∃ y, out[k]? = some y := ⟨out[k], List.getElem?_eq_getElem hlt⟩
      by_cases he : y.id < x.id
      · exact Judg.run' 28 (orc [(27, .val (bA true)), (31, .val (.rptr (iA (y.id) :: iA (y.ver) :: rowI y.args :: rowE y.events :: bA (y.cut) :: iA (y.en) :: rpsA (out.drop (k + 1))))), (36, .val (.rptr (iA (x.id) :: iA (x.ver) :: rowI x.args :: rowE x.events :: bA (x.cut) :: iA (x.en) :: rpsA (l.drop (i + 1))))), (39, .val (bA true)), (42, .val (iA ((k + 1 : Nat) : Int)))]) (.go (stOf (runCode Try.prog (orc [(27, .val (bA true)), (31, .val (.rptr (iA (y.id) :: iA (y.ver) :: rowI y.args :: rowE y.events :: bA (y.cut) :: iA (y.en) :: rpsA (out.drop (k + 1))))), (36, .val (.rptr (iA (x.id) :: iA (x.ver) :: rowI x.args :: rowE x.events :: bA (x.cut) :: iA (x.en) :: rpsA (l.drop (i + 1))))), (39, .val (bA true)), (42, .val (iA ((k + 1 : Nat) : Int)))]) (liveOf 28) 0 (gB I28) (st28b l out i k)))) [pB .add 3 (.tmp 41) (.const (.int .i64 1)) (.int .i64 ((k : Nat) : Int)) (.int .i64 (1)) (iA ((k + 1 : Nat) : Int)), pB .lss 3 (.tmp 33) (.tmp 38) (.int .i64 (y.id)) (.int .i64 (x.id)) (bA true), cmdIndexAddr Try.prog 28 (rowR l) (iA ((i : Nat) : Int)) = some (.val (.rptr (iA (x.id) :: iA (x.ver) :: rowI x.args :: rowE x.events :: bA (x.cut) :: iA (x.en) :: rpsA (l.drop (i + 1))))), cmdIndexAddr Try.prog 28 (rowR out) (iA ((k : Nat) : Int)) = some (.val (.rptr (iA (y.id) :: iA (y.ver) :: rowI y.args :: rowE y.events :: bA (y.cut) :: iA (y.en) :: rpsA (out.drop (k + 1))))), pB .lss 3 (.tmp 24) (.tmp 26) (.int .i64 ((k : Nat) : Int)) (.int .i64 ((out.length : Nat) : Int)) (bA true)] (by kernel_rfl) (by kernel_rfl) (allc (hAdd _ _ _ _ _ _ (by simp) ⟨by omega, by omega⟩) (allc (hLss _ _ _ _ _ _ (decide_eq_true (by omega))) (allc (el28.idxR hx) (allc (el28.idxR hy) (allc (hLss _ _ _ _ _ _ (decide_eq_true (by omega))) allnil))))) ⟨k + 1, ⟨by omega, posR_step hy hkp he⟩, by omega, by kernel_rfl⟩
      · refine Judg.run' 28 (orc [(27, .val (bA true)), (31, .val (.rptr (iA (y.id) :: iA (y.ver) :: rowI y.args :: rowE y.events :: bA (y.cut) :: iA (y.en) :: rpsA (out.drop (k + 1))))), (36, .val (.rptr (iA (x.id) :: iA (x.ver) :: rowI x.args :: rowE x.events :: bA (x.cut) :: iA (x.en) :: rpsA (l.drop (i + 1))))), (39, .val (bA false))]) (.exit 2 (stOf (runCode Try.prog (orc [(27, .val (bA true)), (31, .val (.rptr (iA (y.id) :: iA (y.ver) :: rowI y.args :: rowE y.events :: bA (y.cut) :: iA (y.en) :: rpsA (out.drop (k + 1))))), (36, .val (.rptr (iA (x.id) :: iA (x.ver) :: rowI x.args :: rowE x.events :: bA (x.cut) :: iA (x.en) :: rpsA (l.drop (i + 1))))), (39, .val (bA false))]) (liveOf 28) 0 (gB I28) (st28b l out i k)))) [pB .lss 3 (.tmp 33) (.tmp 38) (.int .i64 (y.id)) (.int .i64 (x.id)) (bA false), cmdIndexAddr Try.prog 28 (rowR l) (iA ((i : Nat) : Int)) = some (.val (.rptr (iA (x.id) :: iA (x.ver) :: rowI x.args :: rowE x.events :: bA (x.cut) :: iA (x.en) :: rpsA (l.drop (i + 1))))), cmdIndexAddr Try.prog 28 (rowR out) (iA ((k : Nat) : Int)) = some (.val (.rptr (iA (y.id) :: iA (y.ver) :: rowI y.args :: rowE y.events :: bA (y.cut) :: iA (y.en) :: rpsA (out.drop (k + 1))))), pB .lss 3 (.tmp 24) (.tmp 26) (.int .i64 ((k : Nat) : Int)) (.int .i64 ((out.length : Nat) : Int)) (bA true)] (by kernel_rfl) (by kernel_rfl) (allc (hLss _ _ _ _ _ _ (decide_eq_false (by omega))) (allc (el28.idxR hx) (allc (el28.idxR hy) (allc (hLss _ _ _ _ _ _ (decide_eq_true (by omega))) allnil)))) ?_
        show Judg (gK I28) _ _
        refine Judg.clean (L := [0, 4, 5, 6]) (N := []) (t := st28b l out i k) (by kernel_rfl) ?_
        refine (me_rest l out i k x hx hv (posR_stop hy hkp he) hk hlo (by omega) q).mono fun o ho => ?_
        cases o with
        | go s => exact ho
        | ret s => exact ho
        | exit id s => simp only at ho ⊢; split <;> rename_i e <;> simp only [e, if_true, if_false] at ho <;> exact ho
    · refine Judg.run' 28 (orc [(27, .val (bA false))]) (.exit 2 (stOf (runCode Try.prog (orc [(27, .val (bA false))]) (liveOf 28) 0 (gB I28) (st28b l out i k)))) [pB .lss 3 (.tmp 24) (.tmp 26) (.int .i64 ((k : Nat) : Int)) (.int .i64 ((out.length : Nat) : Int)) (bA false)] (by kernel_rfl) (by kernel_rfl) (allc (hLss _ _ _ _ _ _ (decide_eq_false (by omega))) allnil) ?_
      show Judg (gK I28) _ _
      refine Judg.clean (L := [0, 4, 5, 6]) (N := []) (t := st28b l out i k) (by kernel_rfl) ?_
      refine (me_rest l out i k x hx hv (by have := posR_le out x.id; omega) hk hlo (by omega) q).mono fun o ho => ?_
      cases o with
      | go s => exact ho
      | ret s => exact ho
      | exit id s => simp only at ho ⊢; split <;> rename_i e <;> simp only [e, if_true, if_false] at ho <;> exact ho

noncomputable abbrev B28c : Code := fB (post 1 (fK (post 2 C28)))
noncomputable abbrev X28c : Code := bX (sX (sY B28c))
def st28c (out : List Rp) (i j : Nat) (cs : List AV) : St := { n := 111, slots := [(4, rowR out), (8, .row (some (108, 3)) 1 (j) (cs)), (9, iA ((i : Nat) : Int))], objs := [], lens := [(108, j * 1)] }
def st28d (out : List Rp) (i j : Nat) (cs : List AV) (b : Bool) (k : Nat) : St := { n := 111, slots := [(4, rowR out), (8, .row (some (108, 3)) 1 (j) (cs)), (9, iA ((i : Nat) : Int)), (10, bA (b)), (11, iA ((k : Nat) : Int))], objs := [], lens := [(108, j * 1)] }
theorem me_wrong (out : List Rp) (i j : Nat) (cs : List AV) (x : Rp) (hx : out[i]? = some x) (hf : ∀ r ∈ out, Fit r) (hlo : out.length ≤ 1000000) (hj : j ≤ 1000000) {Q : Out → Prop}
    (q : ∀ s', clean [4, 8, 9] [108] s' = (if out.any (fun y => contrR x y) = true then st28c out (i + 1) (j + 1) (cs ++ [iA x.id]) else st28c out (i + 1) j cs) → Q (.go s')) : Judg B28c (st28c out i j cs) Q := by
  have hil : i < out.length := (List.getElem?_eq_some_iff.1 hx).1
  refine Judg.seqE (by kernel_rfl) (Judg.run' 28 (orc [(79, .val (bA true))]) (.go (stOf (runCode Try.prog (orc [(79, .val (bA true))]) (liveOf 28) 0 (sX B28c) (st28c out i j cs)))) [pB .lss 3 (.tmp 76) (.tmp 78) (.int .i64 ((i : Nat) : Int)) (.int .i64 ((out.length : Nat) : Int)) (bA true)] (by kernel_rfl) (by kernel_rfl) (allc (hLss _ _ _ _ _ _ (decide_eq_true (by omega))) allnil) ?_)
  show Judg (sY B28c) _ _
  refine Judg.clean (L := [4, 8, 9]) (N := [108]) (t := st28c out i j cs) (by kernel_rfl) ?_
  refine Judg.seqE (by kernel_rfl) (Judg.blockE (by kernel_rfl) ?_)
  refine Judg.pre' 28 (orc []) 1 (stOf (runCode Try.prog (orc []) (liveOf 28) 0 (Ytlekojbcaelpiaa.pre 1 X28c) (st28c out i j cs))) [] (by kernel_rfl) (by kernel_rfl) allnil ?_
  refine Judg.clean (L := [4, 8, 9, 10]) (N := [108]) rfl ?_
  refine Judg.for_ (ι := Nat) [4, 8, 9, 10, 11] [108] (fun k => st28d out i j cs ((out.take k).any fun y => contrR x y) k) (fun k => out.length - k) (fun k => k ≤ out.length) (by kernel_rfl) (orc []) (liveOf 28) (s1 := stOf (runCode Try.prog (orc []) (liveOf 28) 0 (fR (post 1 X28c)) (clean [4, 8, 9, 10] [108] (stOf (runCode Try.prog (orc []) (liveOf 28) 0 (Ytlekojbcaelpiaa.pre 1 X28c) (st28c out i j cs)))))) (by kernel_rfl)
    (by rw [show (stOf (runCode Try.prog (orc []) (liveOf 28) 0 (fR (post 1 X28c)) (clean [4, 8, 9, 10] [108] (stOf (runCode Try.prog (orc []) (liveOf 28) 0 (Ytlekojbcaelpiaa.pre 1 X28c) (st28c out i j cs)))))).log = [] by kernel_rfl]; exact allnil) 0 (Nat.zero_le _) (by kernel_rfl) ?_
  intro k hk
  by_cases hlt : k < out.length
  · obtain ⟨y, hy⟩ : ∃ y, out[k]? = some y := ⟨out[k], List.getElem?_eq_getElem hlt⟩
    have e2 : ((out.take (k + 1)).any fun y => contrR x y) = (((out.take k).any fun y => contrR x y) || contrR x y) := by rw [take_succ_at hy, List.any_append]; simp
    cases hb : ((out.take k).any fun y => contrR x y) with
    | true =>
      rw [hb] at e2
      exact Judg.run' 28 (orc [(85, .val (bA true)), (87, .val (iA ((k + 1 : Nat) : Int)))]) (.go (stOf (runCode Try.prog (orc [(85, .val (bA true)), (87, .val (iA ((k + 1 : Nat) : Int)))]) (liveOf 28) 0 (fB (post 1 X28c)) (st28d out i j cs true k)))) [pB .add 3 (.tmp 86) (.const (.int .i64 1)) (.int .i64 ((k : Nat) : Int)) (.int .i64 (1)) (iA ((k + 1 : Nat) : Int)), pB .lss 3 (.tmp 82) (.tmp 84) (.int .i64 ((k : Nat) : Int)) (.int .i64 ((out.length : Nat) : Int)) (bA true)] (by kernel_rfl) (by kernel_rfl) (allc (hAdd _ _ _ _ _ _ (by simp) ⟨by omega, by omega⟩) (allc (hLss _ _ _ _ _ _ (decide_eq_true (by omega))) allnil)) ⟨k + 1, by omega, by omega, by rw [e2, Bool.true_or]; kernel_rfl⟩
    | false =>
      rw [hb, Bool.false_or] at e2
      have h56 := ok56 x y (hf x (List.mem_of_getElem? hx)) (hf y (List.mem_of_getElem? hy))
      cases hc : contrR x y with
      | true =>
        rw [hc] at h56 e2
        exact Judg.run' 28 (orcC [(98, plainR (bA true))] [(85, .val (bA true)), (92, .val (.rptr (iA (x.id) :: iA (x.ver) :: rowI x.args :: rowE x.events :: bA (x.cut) :: iA (x.en) :: rpsA (out.drop (i + 1))))), (96, .val (.rptr (iA (y.id) :: iA (y.ver) :: rowI y.args :: rowE y.events :: bA (y.cut) :: iA (y.en) :: rpsA (out.drop (k + 1))))), (87, .val (iA ((k + 1 : Nat) : Int)))]) (.go (stOf (runCode Try.prog (orcC [(98, plainR (bA true))] [(85, .val (bA true)), (92, .val (.rptr (iA (x.id) :: iA (x.ver) :: rowI x.args :: rowE x.events :: bA (x.cut) :: iA (x.en) :: rpsA (out.drop (i + 1))))), (96, .val (.rptr (iA (y.id) :: iA (y.ver) :: rowI y.args :: rowE y.events :: bA (y.cut) :: iA (y.en) :: rpsA (out.drop (k + 1))))), (87, .val (iA ((k + 1 : Nat) : Int)))]) (liveOf 28) 0 (fB (post 1 X28c)) (st28d out i j cs false k)))) [pB .add 3 (.tmp 86) (.const (.int .i64 1)) (.int .i64 ((k : Nat) : Int)) (.int .i64 (1)) (iA ((k + 1 : Nat) : Int)), Ok Try.prog 56 [.agg [iA (x.id), iA (x.ver), rowI x.args, rowE x.events, bA (x.cut), iA (x.en)], .agg [iA (y.id), iA (y.ver), rowI y.args, rowE y.events, bA (y.cut), iA (y.en)]] (plainR (bA true)), cmdIndexAddr Try.prog 28 (rowR out) (iA ((k : Nat) : Int)) = some (.val (.rptr (iA (y.id) :: iA (y.ver) :: rowI y.args :: rowE y.events :: bA (y.cut) :: iA (y.en) :: rpsA (out.drop (k + 1))))), cmdIndexAddr Try.prog 28 (rowR out) (iA ((i : Nat) : Int)) = some (.val (.rptr (iA (x.id) :: iA (x.ver) :: rowI x.args :: rowE x.events :: bA (x.cut) :: iA (x.en) :: rpsA (out.drop (i + 1))))), pB .lss 3 (.tmp 82) (.tmp 84) (.int .i64 ((k : Nat) : Int)) (.int .i64 ((out.length : Nat) : Int)) (bA true)] (by kernel_rfl) (by kernel_rfl) (allc (hAdd _ _ _ _ _ _ (by simp) ⟨by omega, by omega⟩) (allc (h56) (allc (el28.idxR hy) (allc (el28.idxR hx) (allc (hLss _ _ _ _ _ _ (decide_eq_true (by omega))) allnil))))) ⟨k + 1, by omega, by omega, by rw [e2]; kernel_rfl⟩
      | false =>
        rw [hc] at h56 e2
        exact Judg.run' 28 (orcC [(98, plainR (bA false))] [(85, .val (bA true)), (92, .val (.rptr (iA (x.id) :: iA (x.ver) :: rowI x.args :: rowE x.events :: bA (x.cut) :: iA (x.en) :: rpsA (out.drop (i + 1))))), (96, .val (.rptr (iA (y.id) :: iA (y.ver) :: rowI y.args :: rowE y.events :: bA (y.cut) :: iA (y.en) :: rpsA (out.drop (k + 1))))), (87, .val (iA ((k + 1 : Nat) : Int)))]) (.go (stOf (runCode Try.prog (orcC [(98, plainR (bA false))] [(85, .val (bA true)), (92, .val (.rptr (iA (x.id) :: iA (x.ver) :: rowI x.args :: rowE x.events :: bA (x.cut) :: iA (x.en) :: rpsA (out.drop (i + 1))))), (96, .val (.rptr (iA (y.id) :: iA (y.ver) :: rowI y.args :: rowE y.events :: bA (y.cut) :: iA (y.en) :: rpsA (out.drop (k + 1))))), (87, .val (iA ((k + 1 : Nat) : Int)))]) (liveOf 28) 0 (fB (post 1 X28c)) (st28d out i j cs false k)))) [pB .add 3 (.tmp 86) (.const (.int .i64 1)) (.int .i64 ((k : Nat) : Int)) (.int .i64 (1)) (iA ((k + 1 : Nat) : Int)), Ok Try.prog 56 [.agg [iA (x.id), iA (x.ver), rowI x.args, rowE x.events, bA (x.cut), iA (x.en)], .agg [iA (y.id), iA (y.ver), rowI y.args, rowE y.events, bA (y.cut), iA (y.en)]] (plainR (bA false)), cmdIndexAddr Try.prog 28 (rowR out) (iA ((k : Nat) : Int)) = some (.val (.rptr (iA (y.id) :: iA (y.ver) :: rowI y.args :: rowE y.events :: bA (y.cut) :: iA (y.en) :: rpsA (out.drop (k + 1))))), cmdIndexAddr Try.prog 28 (rowR out) (iA ((i : Nat) : Int)) = some (.val (.rptr (iA (x.id) :: iA (x.ver) :: rowI x.args :: rowE x.events :: bA (x.cut) :: iA (x.en) :: rpsA (out.drop (i + 1))))), pB .lss 3 (.tmp 82) (.tmp 84) (.int .i64 ((k : Nat) : Int)) (.int .i64 ((out.length : Nat) : Int)) (bA true)] (by kernel_rfl) (by kernel_rfl) (allc (hAdd _ _ _ _ _ _ (by simp) ⟨by omega, by omega⟩) (allc (h56) (allc (el28.idxR hy) (allc (el28.idxR hx) (allc (hLss _ _ _ _ _ _ (decide_eq_true (by omega))) allnil))))) ⟨k + 1, by omega, by omega, by rw [e2]; kernel_rfl⟩
  · obtain rfl : k = out.length := by omega
    rw [List.take_length]
    cases hb : (out.any fun y => contrR x y) with
    | true =>
      refine Judg.run' 28 (orc [(85, .val (bA false))]) (.exit 6 (stOf (runCode Try.prog (orc [(85, .val (bA false))]) (liveOf 28) 0 (fB (post 1 X28c)) (st28d out i j cs true out.length)))) [pB .lss 3 (.tmp 82) (.tmp 84) (.int .i64 ((out.length : Nat) : Int)) (.int .i64 ((out.length : Nat) : Int)) (bA false)] (by kernel_rfl) (by kernel_rfl) (allc (hLss _ _ _ _ _ _ (decide_eq_false (by omega))) allnil) ?_
      show Judg (fK (post 1 X28c)) _ _
      refine Judg.run' 28 (orc [(104, .val (.rptr (iA (x.id) :: iA (x.ver) :: rowI x.args :: rowE x.events :: bA (x.cut) :: iA (x.en) :: rpsA (out.drop (i + 1))))), (108, .grow 108 3 1 (j) (cs) (1) ([iA (x.id)]))]) (.go (stOf (runCode Try.prog (orc [(104, .val (.rptr (iA (x.id) :: iA (x.ver) :: rowI x.args :: rowE x.events :: bA (x.cut) :: iA (x.en) :: rpsA (out.drop (i + 1))))), (108, .grow 108 3 1 (j) (cs) (1) ([iA (x.id)]))]) (liveOf 28) 0 (fK (post 1 X28c)) ((stOf (runCode Try.prog (orc [(85, .val (bA false))]) (liveOf 28) 0 (fB (post 1 X28c)) (st28d out i j cs true out.length))))))) [cmdAppend Try.prog 22 22 (.row (some (108, 3)) 1 (j) (cs)) (.row (some (107, 3)) 1 (1) ([iA (x.id)])) = some (.grow 108 3 1 (j) (cs) (1) ([iA (x.id)])), j * 1 = j * 1, cmdIndexAddr Try.prog 28 (rowR out) (iA ((i : Nat) : Int)) = some (.val (.rptr (iA (x.id) :: iA (x.ver) :: rowI x.args :: rowE x.events :: bA (x.cut) :: iA (x.en) :: rpsA (out.drop (i + 1))))), pB .lss 3 (.tmp 82) (.tmp 84) (.int .i64 ((out.length : Nat) : Int)) (.int .i64 ((out.length : Nat) : Int)) (bA false)] (by kernel_rfl) (by kernel_rfl) (allc (el22.grow (rowOf_row _ _ _ _) (fits_of (by omega) (by omega))) (allc (rfl) (allc (el28.idxR hx) (allc (hLss _ _ _ _ _ _ (decide_eq_false (by omega))) allnil)))) ?_
      show Judg (sY (sY B28c)) _ _
      refine Judg.run' 28 (orc [(81, .val (iA ((i + 1 : Nat) : Int)))]) (.go (stOf (runCode Try.prog (orc [(81, .val (iA ((i + 1 : Nat) : Int)))]) (liveOf 28) 0 (sY (sY B28c)) ((stOf (runCode Try.prog (orc [(104, .val (.rptr (iA (x.id) :: iA (x.ver) :: rowI x.args :: rowE x.events :: bA (x.cut) :: iA (x.en) :: rpsA (out.drop (i + 1))))), (108, .grow 108 3 1 (j) (cs) (1) ([iA (x.id)]))]) (liveOf 28) 0 (fK (post 1 X28c)) ((stOf (runCode Try.prog (orc [(85, .val (bA false))]) (liveOf 28) 0 (fB (post 1 X28c)) (st28d out i j cs true out.length)))))))))) [pB .add 3 (.tmp 80) (.const (.int .i64 1)) (.int .i64 ((i : Nat) : Int)) (.int .i64 (1)) (iA ((i + 1 : Nat) : Int)), cmdAppend Try.prog 22 22 (.row (some (108, 3)) 1 (j) (cs)) (.row (some (107, 3)) 1 (1) ([iA (x.id)])) = some (.grow 108 3 1 (j) (cs) (1) ([iA (x.id)])), j * 1 = j * 1, cmdIndexAddr Try.prog 28 (rowR out) (iA ((i : Nat) : Int)) = some (.val (.rptr (iA (x.id) :: iA (x.ver) :: rowI x.args :: rowE x.events :: bA (x.cut) :: iA (x.en) :: rpsA (out.drop (i + 1))))), pB .lss 3 (.tmp 82) (.tmp 84) (.int .i64 ((out.length : Nat) : Int)) (.int .i64 ((out.length : Nat) : Int)) (bA false)] (by kernel_rfl) (by kernel_rfl) (allc (hAdd _ _ _ _ _ _ (by simp) ⟨by omega, by omega⟩) (allc (el22.grow (rowOf_row _ _ _ _) (fits_of (by omega) (by omega))) (allc (rfl) (allc (el28.idxR hx) (allc (hLss _ _ _ _ _ _ (decide_eq_false (by omega))) allnil))))) ?_
      exact q _ (by rw [if_pos hb]; kernel_rfl)
    | false =>
      refine Judg.run' 28 (orc [(85, .val (bA false))]) (.exit 6 (stOf (runCode Try.prog (orc [(85, .val (bA false))]) (liveOf 28) 0 (fB (post 1 X28c)) (st28d out i j cs false out.length)))) [pB .lss 3 (.tmp 82) (.tmp 84) (.int .i64 ((out.length : Nat) : Int)) (.int .i64 ((out.length : Nat) : Int)) (bA false)] (by kernel_rfl) (by kernel_rfl) (allc (hLss _ _ _ _ _ _ (decide_eq_false (by omega))) allnil) ?_
      show Judg (fK (post 1 X28c)) _ _
      refine Judg.run' 28 (orc []) (.go (stOf (runCode Try.prog (orc []) (liveOf 28) 0 (fK (post 1 X28c)) ((stOf (runCode Try.prog (orc [(85, .val (bA false))]) (liveOf 28) 0 (fB (post 1 X28c)) (st28d out i j cs false out.length))))))) [pB .lss 3 (.tmp 82) (.tmp 84) (.int .i64 ((out.length : Nat) : Int)) (.int .i64 ((out.length : Nat) : Int)) (bA false)] (by kernel_rfl) (by kernel_rfl) (allc (hLss _ _ _ _ _ _ (decide_eq_false (by omega))) allnil) ?_
      show Judg (sY (sY B28c)) _ _
      refine Judg.run' 28 (orc [(81, .val (iA ((i + 1 : Nat) : Int)))]) (.go (stOf (runCode Try.prog (orc [(81, .val (iA ((i + 1 : Nat) : Int)))]) (liveOf 28) 0 (sY (sY B28c)) ((stOf (runCode Try.prog (orc []) (liveOf 28) 0 (fK (post 1 X28c)) ((stOf (runCode Try.prog (orc [(85, .val (bA false))]) (liveOf 28) 0 (fB (post 1 X28c)) (st28d out i j cs false out.length)))))))))) [pB .add 3 (.tmp 80) (.const (.int .i64 1)) (.int .i64 ((i : Nat) : Int)) (.int .i64 (1)) (iA ((i + 1 : Nat) : Int)), pB .lss 3 (.tmp 82) (.tmp 84) (.int .i64 ((out.length : Nat) : Int)) (.int .i64 ((out.length : Nat) : Int)) (bA false)] (by kernel_rfl) (by kernel_rfl) (allc (hAdd _ _ _ _ _ _ (by simp) ⟨by omega, by omega⟩) (allc (hLss _ _ _ _ _ _ (decide_eq_false (by omega))) allnil)) ?_
      exact q _ (by rw [if_neg (by simp [hb])]; kernel_rfl)

theorem insR_length (out : List Rp) (x : Rp) : (insR out x).length ≤ out.length + 1 := by
  unfold insR
  split
  · omega
  · split
    · omega
    · have := posR_le out x.id; simp; omega
theorem insR_mem {out : List Rp} {x r : Rp} (h : r ∈ insR out x) : r ∈ out ∨ r = x := by
  unfold insR at h
  split at h
  · exact .inl h
  · split at h
    · exact .inl h
    · rcases List.mem_append.1 h with h | h
      · exact .inl (List.mem_of_mem_take h)
      · rcases List.mem_cons.1 h with h | h
        · exact .inr h
        · exact .inl (List.mem_of_mem_drop h)
theorem foldR_succ {l : List Rp} {i : Nat} {x : Rp} (hx : l[i]? = some x) : foldR (l.take (i + 1)) = insR (foldR (l.take i)) x := by
  unfold foldR; rw [take_succ_at hx, List.foldl_append]; rfl
theorem foldR_length (l : List Rp) : (foldR l).length ≤ l.length := by
  have key : ∀ (l : List Rp) (a : List Rp), (l.foldl insR a).length ≤ a.length + l.length := by
    intro l
    induction l with
    | nil => intro a; simp
    | cons x l ih => intro a; have := ih (insR a x); have := insR_length a x; simp at *; omega
  have := key l []; simp only [List.length_nil, Nat.zero_add] at this; exact this
theorem foldR_mem {l : List Rp} {r : Rp} : r ∈ foldR l → r ∈ l := by
  have key : ∀ (l : List Rp) (a : List Rp), r ∈ l.foldl insR a → r ∈ a ∨ r ∈ l := by
    intro l
    induction l with
    | nil => intro a h; exact .inl h
    | cons x l ih =>
      intro a h
      rcases ih _ h with h | h
      · rcases insR_mem h with h | h
        · exact .inl h
        · exact .inr (by simp [h])
      · exact .inr (by simp [h])
  intro h
  rcases key l [] h with h | h
  · cases h
  · exact h
def wrongK (con : Rp → Rp → Bool) (out : List Rp) (k : Nat) : List Int := ((out.take k).filter fun x => out.any fun y => con x y).map (·.id)
theorem wrongK_succ (con : Rp → Rp → Bool) {out : List Rp} {k : Nat} {x : Rp} (hx : out[k]? = some x) : wrongK con out (k + 1) = if (out.any fun y => con x y) = true then wrongK con out k ++ [x.id] else wrongK con out k := by
  unfold wrongK
  rw [take_succ_at hx, List.filter_append]
  by_cases h : (out.any fun y => con x y) = true
  · rw [if_pos h, List.filter_cons_of_pos (by exact h)]; simp
  · rw [if_neg h, List.filter_cons_of_neg (by exact h)]; simp
theorem wrongK_len (con : Rp → Rp → Bool) (out : List Rp) (k : Nat) : (wrongK con out k).length ≤ out.length := by
  unfold wrongK
  rw [List.length_map]
  exact Nat.le_trans (List.length_filter_le _ _) (by rw [List.length_take]; exact Nat.min_le_right _ _)
noncomputable def s28a (l : List Rp) : St := stOf (runCode Try.prog (orc []) (liveOf 28) 0 (Ytlekojbcaelpiaa.pre 2 C28) (start [rowR l] 111))
noncomputable def s28c (l : List Rp) : St := { s28a l with slots := (4, .row (some (75, 25)) 6 0 []) :: (s28a l).slots, lens := (75, 0) :: (s28a l).lens }
noncomputable def s28e (l out : List Rp) : St := stOf (runCode Try.prog (orc [(15, .val (bA false))]) (liveOf 28) 0 B28 (st28 l l.length (rowR out)))
noncomputable def s28f (l out : List Rp) : St := stOf (runCode Try.prog (orc []) (liveOf 28) 0 (Ytlekojbcaelpiaa.pre 1 (fK (post 2 C28))) (clean [4] [] (s28e l out)))
noncomputable def s28g (l out : List Rp) : St := { s28f l out with slots := (8, .row (some (108, 3)) 1 0 []) :: (s28f l out).slots, lens := (108, 0) :: (s28f l out).lens }
theorem ok28 (l : List Rp) (hl : l.length ≤ 1000000) (hf : ∀ r ∈ l, Fit r) : Ok Try.prog 28 [rowR l] (plainR (.tup [rowR (foldR l), rowI (wrongR contrR (foldR l))])) := by
  refine Ok.judgW Try.func28 (c := C28) rfl (by simp [Try.ntmps28]) ?_
  refine Judg.pre' 28 (orc []) 2 (s28a l) [] (by kernel_rfl) (by kernel_rfl) allnil ?_
  refine Judg.nilSlot 4 75 25 6 (by kernel_rfl) (by kernel_rfl) ?_
  refine Judg.for_ (ι := Nat) [0, 4, 5] [] (fun i => st28 l i (rowR (foldR (l.take i)))) (fun i => l.length - i) (fun i => i ≤ l.length) (by kernel_rfl) (orc []) (liveOf 28) (s1 := stOf (runCode Try.prog (orc []) (liveOf 28) 0 (fR (post 2 C28)) (s28c l))) (by kernel_rfl)
    (by rw [show (stOf (runCode Try.prog (orc []) (liveOf 28) 0 (fR (post 2 C28)) (s28c l))).log = [] by kernel_rfl]; exact allnil) 0 (Nat.zero_le _) (by kernel_rfl) ?_
  intro i hi
  by_cases hlt : i < l.length
  · obtain ⟨x, hx⟩ : ∃ x, l[i]? = some x := ⟨l[i], List.getElem?_eq_getElem hlt⟩
    refine me_round l _ i x hx (hf x (List.mem_of_getElem? hx)) (by have := foldR_length (l.take i); simp at this; omega) hl fun s' hs' => ?_
    exact ⟨i + 1, by omega, by omega, by rw [foldR_succ hx]; exact hs'⟩
  · obtain rfl : i = l.length := by omega
    rw [List.take_length]
    have hlo := foldR_length l
    have hfo : ∀ r ∈ foldR l, Fit r := fun r hr => hf r (foldR_mem hr)
    generalize foldR l = out at hlo hfo ⊢
    refine Judg.run' 28 (orc [(15, .val (bA false))]) (.exit 0 (s28e l out)) [pB .lss 3 (.tmp 12) (.tmp 14) (.int .i64 ((l.length : Nat) : Int)) (.int .i64 ((l.length : Nat) : Int)) (bA false)] (by kernel_rfl) (by kernel_rfl) (allc (hLss _ _ _ _ _ _ (decide_eq_false (by omega))) allnil) ?_
    show Judg (fK (post 2 C28)) _ _
    refine Judg.clean (L := [4]) (N := []) rfl ?_
    refine Judg.pre' 28 (orc []) 1 (s28f l out) [] (by kernel_rfl) (by kernel_rfl) allnil ?_
    refine Judg.nilSlot 8 108 3 1 (by kernel_rfl) (by kernel_rfl) ?_
    refine Judg.for_ (ι := Nat) [4, 8, 9] [108] (fun i => st28c out i (wrongK contrR out i).length ((wrongK contrR out i).map iA)) (fun i => out.length - i) (fun i => i ≤ out.length) (by kernel_rfl) (orc []) (liveOf 28) (s1 := stOf (runCode Try.prog (orc []) (liveOf 28) 0 (fR (post 1 (fK (post 2 C28)))) (s28g l out))) (by kernel_rfl)
      (by rw [show (stOf (runCode Try.prog (orc []) (liveOf 28) 0 (fR (post 1 (fK (post 2 C28)))) (s28g l out))).log = [] by kernel_rfl]; exact allnil) 0 (Nat.zero_le _) (by kernel_rfl) ?_
    intro i hi
    have hwl := wrongK_len contrR out i
    by_cases hlt : i < out.length
    · obtain ⟨x, hx⟩ : ∃ x, out[i]? = some x := ⟨out[i], List.getElem?_eq_getElem hlt⟩
      refine me_wrong out i _ _ x hx hfo (by omega) (by omega) fun s' hs' => ?_
      refine ⟨i + 1, by omega, by omega, ?_⟩
      rw [hs', wrongK_succ contrR hx]
      split
      · rw [List.length_append, List.map_append]; rfl
      · rfl
    · obtain rfl : i = out.length := by omega
      have hwr : rowI (wrongR contrR out) = .row none 1 (wrongK contrR out out.length).length ((wrongK contrR out out.length).map iA) := by
        unfold wrongK; rw [List.take_length]; rfl
      rw [hwr]
      generalize (wrongK contrR out out.length).map iA = cs
      generalize (wrongK contrR out out.length).length = j
      refine Judg.run' 28 (orc [(79, .val (bA false))]) (.exit 4 (stOf (runCode Try.prog (orc [(79, .val (bA false))]) (liveOf 28) 0 (B28c) (st28c out out.length j cs)))) [pB .lss 3 (.tmp 76) (.tmp 78) (.int .i64 ((out.length : Nat) : Int)) (.int .i64 ((out.length : Nat) : Int)) (bA false)] (by kernel_rfl) (by kernel_rfl) (allc (hLss _ _ _ _ _ _ (decide_eq_false (by omega))) allnil) ?_
      show Judg (fK (post 1 (fK (post 2 C28)))) _ _
      exact Judg.run' 28 (orc []) (.ret (stOf (runCode Try.prog (orc []) (liveOf 28) 0 (fK (post 1 (fK (post 2 C28)))) ((stOf (runCode Try.prog (orc [(79, .val (bA false))]) (liveOf 28) 0 (B28c) (st28c out out.length j cs))))))) [pB .lss 3 (.tmp 76) (.tmp 78) (.int .i64 ((out.length : Nat) : Int)) (.int .i64 ((out.length : Nat) : Int)) (bA false)] (by kernel_rfl) (by kernel_rfl) (allc (hLss _ _ _ _ _ _ (decide_eq_false (by omega))) allnil) (fin_retW (l := []) _ (by kernel_rfl) allnil (ResImp.refl _))
end Go.Proofs.Ytlekojbcaelpiaa

/- The sort of the reports: what it is asked and what it answers. -/
namespace Go.Proofs.Ytlekojbcaelpiaa
open Go.RowKit Go.Shelf Go.Lib Go.Sort

theorem nan69 (a : Int) (W : World) : Calls Try.prog 69 #[.int .i64 a] W fun e w' => e = .returned (.bool false) ∧ w' = W := by
  go_enter Try.func69, Try.ntmps69
  go_wp2
  go_ret
  exact ⟨by simp, rfl⟩
theorem cmp52 (a b : Int) (W : World) : Calls Try.prog 52 #[.int .i64 a, .int .i64 b] W fun e w' => e = .returned (.int .i64 (Lib.compareInt a b)) ∧ w' = W := by
  have h69 := fun x w => nan69 x w
  by_cases h1 : a < b
  · go_enter Try.func52, Try.ntmps52
    go_wp2_with (go_at_call 69; refine (h69 _ _).mono ?_; rintro e w' ⟨rfl, rfl⟩)
    go_ret
    exact ⟨by simp [Lib.compareInt, h1], rfl⟩
  · by_cases h2 : b < a
    · go_enter Try.func52, Try.ntmps52
      go_wp2_with (go_at_call 69; refine (h69 _ _).mono ?_; rintro e w' ⟨rfl, rfl⟩)
      go_ret
      exact ⟨by simp [Lib.compareInt, h1, h2], rfl⟩
    · go_enter Try.func52, Try.ntmps52
      go_wp2_with (go_at_call 69; refine (h69 _ _).mono ?_; rintro e w' ⟨rfl, rfl⟩)
      go_ret
      exact ⟨by unfold Lib.compareInt; rw [if_neg (by omega), if_neg (by omega)]; rfl, rfl⟩
/-- a report in the row that is sorted, its rows by their addresses -/
structure Elm where
  r : Rp
  A2 : Option Addr
  k2 : Nat
  A3 : Option Addr
  k3 : Nat
instance : Inhabited Elm := ⟨⟨rp0, none, 0, none, 0⟩⟩
def cellsE (e : Elm) : List Value := [.int .i64 e.r.id, .int .i64 e.r.ver, .slice e.A2 e.r.args.length e.k2, .slice e.A3 e.r.events.length e.k3, .bool e.r.cut, .int .i64 e.r.en]
def cfE (x y : Elm) : Int := Lib.compareInt x.r.id y.r.id
theorem ltE (x y : Elm) : ltOf cfE x y = decide (x.r.id < y.r.id) := by
  unfold ltOf cfE Lib.compareInt
  by_cases h1 : x.r.id < y.r.id
  · simp [h1]
  · by_cases h2 : y.r.id < x.r.id <;> simp [h1, h2]
theorem swoE : SWO (ltOf cfE) where
  irrefl x := by rw [ltE]; simp
  trans x y z h1 h2 := by rw [ltE] at *; simp at *; omega
  ntrans x y z h1 h2 := by rw [ltE] at *; simp at *; omega
theorem clos51 (x y : Elm) (W : World) : Calls Try.prog 51 #[.agg (cellsE x).toArray, .agg (cellsE y).toArray] W fun e w' => e = .returned (.int .i64 (cfE x y)) ∧ ∃ q os', w' = grow (W.drewN q) os' := by
  have hcon := fun W' => cmp52 x.r.id y.r.id W'
  unfold cfE
  generalize Lib.compareInt x.r.id y.r.id = r at hcon ⊢
  unfold cellsE
  go_enter Try.func51, Try.ntmps51
  go_wp2_with (go_at_call 52; refine (hcon _).mono ?_; rintro e w' ⟨rfl, rfl⟩)
  go_ret
  exact ⟨rfl, 0, _, by rw [alloc_eq_grow, alloc_eq_grow, grow_grow]; rfl⟩
theorem cmpLays51 (blk off size : Nat) (w : World) : CmpLays Try.prog 51 #[] cellsE 6 cfE blk off size w := fun _ _ _ _ x y => clos51 x y _
theorem sort50 (blk cap : Nat) (d : Array Elm) (w : World) (hH : HoldsK cellsE 6 w blk 0 d) (hblk : blk < w.heap.size) (hsz : d.size < 4611686018427387904) :
    Calls Try.prog 50 #[.slice (some ⟨blk, 0, none⟩) d.size cap, .func (.func 51) #[] #[]] w fun e w' =>
      e = .returned (.tuple #[]) ∧ ∃ d' n os, PermIn 0 d.size d d' ∧ SortedIn (ltOf cfE) 0 d.size d' ∧ w' = sortWorldK cellsE 6 w blk 0 n d' os :=
  AnyQ.slices_SortFunc Try.sortR 6 Try.isAgg30 Try.sizeOf30 cellsE (fun _ => rfl) (fun x v hv => by
    simp only [cellsE, List.mem_cons, List.not_mem_nil, or_false] at hv
    rcases hv with rfl | rfl | rfl | rfl | rfl | rfl <;> rfl) cfE swoE 51 #[] blk 0 cap d w (fun args w => run_callFunc (enters Try.func51 rfl) args) (cmpLays51 blk 0 d.size w) hH hblk hsz
theorem sort50n (p : Option Addr) (cap : Nat) (fv : Value) (w : World) : Calls Try.prog 50 #[.slice p 0 cap, fv] w fun e w' => e = .returned (.tuple #[]) ∧ w' = w :=
  AnyF.slices_SortFunc_none Try.sortR p cap fv w
end Go.Proofs.Ytlekojbcaelpiaa

/- report.Merge: the first loop. -/
namespace Go.Proofs.Ytlekojbcaelpiaa
open Go.RowKit
theorem Dm_from (k : Int) : ∀ (ids : List Int) (D : DN), (∃ es, D = .map es) → (ids.foldl (fun D k => D.put (.int .i64 k) (.lit (.bool true))) D).atKey (.int .i64 k) (.lit (.bool false)) = if k ∈ ids then .lit (.bool true) else D.atKey (.int .i64 k) (.lit (.bool false))
  | [], D, _ => by simp
  | y :: ids, D, h => by
    rw [List.foldl_cons, Dm_from k ids _ (put_map D h _ _)]
    by_cases hm : k ∈ ids
    · rw [if_pos hm, if_pos (by simp [hm])]
    · rw [if_neg hm]
      by_cases hk : k = y
      · subst hk; rw [Maps.atKey_put_same (k := (Lit.int .i64 k)) h trivial, if_pos (by simp)]
      · rw [Maps.atKey_put_other (by intro e; cases e; exact hk rfl), if_neg (by simp [hm, hk])]
theorem Dm_at (k : Int) (ids : List Int) : (Dm ids).atKey (.int .i64 k) (.lit (.bool false)) = .lit (.bool (decide (k ∈ ids))) := by
  unfold Dm
  rw [Dm_from k ids _ ⟨_, rfl⟩]
  by_cases h : k ∈ ids
  · rw [if_pos h, decide_eq_true h]
  · rw [if_neg h, decide_eq_false h]; rfl
def stepM (acc : List Rp) (x : Rp) : List Rp := if validB x = true ∧ x.id ∉ acc.map (·.id) then acc ++ [x] else acc
def firsts (l : List Rp) : List Rp := l.foldl stepM []
theorem firsts_take {l : List Rp} {i : Nat} {x : Rp} (h : l[i]? = some x) : firsts (l.take (i + 1)) = stepM (firsts (l.take i)) x := by
  unfold firsts; rw [take_succ_at h, List.foldl_append]; rfl
theorem firsts_len : ∀ (l : List Rp), (firsts l).length ≤ l.length := by
  unfold firsts
  suffices ∀ (l acc : List Rp), (l.foldl stepM acc).length ≤ acc.length + l.length from fun l => by have := this l []; simpa using this
  intro l
  induction l with
  | nil => intro acc; simp
  | cons x l ih =>
    intro acc
    have := ih (stepM acc x)
    have h2 : (stepM acc x).length ≤ acc.length + 1 := by unfold stepM; split <;> simp
    simp only [List.foldl_cons, List.length_cons]; omega
noncomputable abbrev C26 : Code := bodyOf Try.f26
noncomputable abbrev T26 : Code := post 3 C26
noncomputable abbrev B26 : Code := fB T26
noncomputable abbrev X26 : Code := bX (sX (post 2 B26))
noncomputable abbrev R6m : Code := sX (sY X26)
noncomputable abbrev Q6m : Code := sY (sY X26)
noncomputable abbrev Y26 : Code := cA Q6m
noncomputable abbrev R7m : Code := sX Y26
noncomputable abbrev R8m : Code := sX (sY Y26)
noncomputable abbrev R9m : Code := sY (sY Y26)
noncomputable abbrev R10m : Code := sY (post 2 B26)
def st26 (mb : Nat) (l : List Rp) (i j : Nat) (cs : List AV) : St := { n := 63, slots := [(4, .sc (.map (some mb))), (5, .row (some (41, 30)) 6 (j) (cs)), (12, rowR l), (13, iA ((l.length : Nat) : Int)), (14, iA ((i : Nat) : Int))], objs := [], lens := [(41, j * 6)] }
def st26b (mb : Nat) (l : List Rp) (i j : Nat) (cs : List AV) (x : Rp) : St := { n := 63, slots := [(4, .sc (.map (some mb))), (5, .row (some (41, 30)) 6 (j) (cs)), (7, .ptr 7 0), (12, rowR l), (13, iA ((l.length : Nat) : Int)), (14, iA ((i : Nat) : Int))], objs := [(7, (30, [iA (x.id), iA (x.ver), rowI x.args, rowE x.events, bA (x.cut), iA (x.en)]))], lens := [(41, j * 6)] }
noncomputable def s26t (mb : Nat) (l : List Rp) (i j : Nat) (cs : List AV) (x : Rp) : St := match runS Try.prog (orcC [(19, plainR (bA true))] []) (rOps R6m) ((rOps R6m).toList.take 6) (st26b mb l i j cs x) with | some s => s | none => { n := 0, slots := [], objs := [], lens := [] }
noncomputable def s26u (mb : Nat) (l : List Rp) (i j : Nat) (cs : List AV) (x : Rp) (b : Bool) : St := { s26t mb l i j cs x with slots := (24, bA b) :: (s26t mb l i j cs x).slots }
noncomputable def s26v (mb : Nat) (l : List Rp) (i j : Nat) (cs : List AV) (x : Rp) (b : Bool) : St := match runS Try.prog (orc []) (rOps R6m) ((rOps R6m).toList.drop 7) (s26u mb l i j cs x b) with | some s => s | none => { n := 0, slots := [], objs := [], lens := [] }
def st26c (mb : Nat) (l : List Rp) (i j : Nat) (cs : List AV) (x : Rp) : St := { n := 63, slots := [(4, .sc (.map (some mb))), (5, .row (some (41, 30)) 6 (j) (cs)), (7, .ptr 7 0), (12, rowR l), (13, iA ((l.length : Nat) : Int)), (14, iA ((i : Nat) : Int))], objs := [(7, (30, [iA (x.id), iA (x.ver), rowI x.args, rowE x.events, bA (x.cut), iA (x.en)]))], lens := [(41, j * 6)] }
noncomputable def s26w (mb : Nat) (l : List Rp) (i j : Nat) (cs : List AV) (x : Rp) : St := match runS Try.prog (orc []) (rOps R7m) ((rOps R7m).toList.take 3) (st26b mb l i j cs x) with | some s => s | none => { n := 0, slots := [], objs := [], lens := [] }
def st26d (mb : Nat) (l : List Rp) (i j : Nat) (cs : List AV) (x : Rp) : St := { n := 63, slots := [(4, .sc (.map (some mb))), (5, .row (some (41, 30)) 6 (j) (cs)), (7, .ptr 7 0), (12, rowR l), (13, iA ((l.length : Nat) : Int)), (14, iA ((i : Nat) : Int))], objs := [(7, (30, [iA (x.id), iA (x.ver), .row (some (32, 3)) 1 (x.args.length) (x.args.map iA), .row (some (35, 71)) 3 (x.events.length) (evA x.events), bA (x.cut), iA (x.en)]))], lens := [(32, x.args.length * 1), (35, x.events.length * 3), (41, j * 6)] }
def st26e (mb : Nat) (l : List Rp) (i j : Nat) (cs : List AV) (x : Rp) (A2 : Option Addr) (k2 : Nat) (A3 : Option Addr) (k3 : Nat) : St := { n := 63, slots := [(4, .sc (.map (some mb))), (5, .row (some (41, 30)) 6 (j) (cs)), (7, .ptr 7 0), (12, rowR l), (13, iA ((l.length : Nat) : Int)), (14, iA ((i : Nat) : Int))], objs := [(7, (30, [iA (x.id), iA (x.ver), .sc (.slice A2 x.args.length k2), .sc (.slice A3 x.events.length k3), bA (x.cut), iA (x.en)]))], lens := [(41, j * 6)] }
/-- the map, in what nobody touches -/
def MapIn (F : Frz) (mb : Nat) (ids : List Int) : Prop := ∃ o, F mb = some o ∧ ∀ w : World, w.heap[mb]? = some o → w.ownsMap (H := Nat) Try.prog 3 (plainElem Try.prog 4) mb ids.length (Dm ids)
def Fx (F : Frz) (mb : Nat) : Frz := fun k => if k = mb then none else F k
/-- what stands between two rounds -/
structure Inv26 (B : Nat) (F0 : Frz) (mb : Nat) (acc : List Rp) (es : List Elm) (F : Frz) : Prop where
  sub : ∀ k o, F0 k = some o → k ≠ mb ∧ F k = some o
  map : MapIn F mb (acc.map (·.id))
  acc : es.map (·.r) = acc
  els : ∀ e ∈ es, FrV B (Fx F mb) (.slice e.A2 e.r.args.length e.k2) (rowI e.r.args) ∧ FrV B (Fx F mb) (.slice e.A3 e.r.events.length e.k3) (rowE e.r.events)
def csOf (es : List Elm) : List AV := (es.flatMap cellsE).map .sc
theorem csOf_snoc (es : List Elm) (e : Elm) : csOf (es ++ [e]) = csOf es ++ (cellsE e).map .sc := by unfold csOf; simp
theorem key3 : Maps.Keyed Try.prog 3 := Maps.int_keyed Try.underlying3
theorem keyOf3 {k : Int} (h : I64 k) : keyOf Try.prog 3 (.int .i64 k) = some (.int .i64 k) := Maps.keyOf_int_mk Try.underlying3 (by
  obtain ⟨h1, h2⟩ := h
  show (decide (IntKind.i64.min ≤ k) && decide (k ≤ IntKind.i64.max)) = true
  rw [Bool.and_eq_true, decide_eq_true_eq, decide_eq_true_eq]
  exact ⟨h1, h2⟩)

section
variable {B : Nat} {F0 F : Frz} {mb : Nat} {l : List Rp} {acc : List Rp} {es : List Elm} {i : Nat} {x : Rp}
variable (hl : l.length ≤ 1000000) (hx : l[i]? = some x) (hf : Fit x) (hi : Inv26 B F0 mb acc es F)
include hl hx hf hi
theorem m26_no {Q : Out → Frz → Prop} (j : Nat) (cs : List AV) (hv : validB x = false) (q : ∀ s', clean [4, 5, 12, 13, 14] [41] s' = st26 mb l (i + 1) j cs → Q (.go s') F) : JudgF B F B26 (st26 mb l i j cs) Q := by
  have hil : i < l.length := (List.getElem?_eq_some_iff.1 hx).1
  have _ := hi
  have h10 := ok10 x hf
  rw [hv] at h10
  exact JudgF.of (Qo := fun o => ∃ s', o = .go s' ∧ clean [4, 5, 12, 13, 14] [41] s' = st26 mb l (i + 1) j cs) (Judg.run' 26 (orcC [(19, plainR (bA false))] [(15, .val (bA true)), (16, .val (.rptr (iA (x.id) :: iA (x.ver) :: rowI x.args :: rowE x.events :: bA (x.cut) :: iA (x.en) :: rpsA (l.drop (i + 1))))), (42, .val (iA ((i + 1 : Nat) : Int)))]) (.go (stOf (runCode Try.prog (orcC [(19, plainR (bA false))] [(15, .val (bA true)), (16, .val (.rptr (iA (x.id) :: iA (x.ver) :: rowI x.args :: rowE x.events :: bA (x.cut) :: iA (x.en) :: rpsA (l.drop (i + 1))))), (42, .val (iA ((i + 1 : Nat) : Int)))]) (liveOf 26) 0 (B26) (st26 mb l i j cs)))) [pB .add 3 (.tmp 14) (.const (.int .i64 1)) (.int .i64 ((i : Nat) : Int)) (.int .i64 (1)) (iA ((i + 1 : Nat) : Int)), Ok Try.prog 10 [.agg [iA (x.id), iA (x.ver), rowI x.args, rowE x.events, bA (x.cut), iA (x.en)]] (plainR (bA false)), cmdIndexAddr Try.prog 52 (rowR l) (iA ((i : Nat) : Int)) = some (.val (.rptr (iA (x.id) :: iA (x.ver) :: rowI x.args :: rowE x.events :: bA (x.cut) :: iA (x.en) :: rpsA (l.drop (i + 1))))), pB .lss 3 (.tmp 14) (.tmp 13) (.int .i64 ((i : Nat) : Int)) (.int .i64 ((l.length : Nat) : Int)) (bA true)] (by kernel_rfl) (by kernel_rfl) (allc (hAdd _ _ _ _ _ _ (by simp) ⟨by omega, by omega⟩) (allc (h10) (allc (el52.idxR hx) (allc (hLss _ _ _ _ _ _ (decide_eq_true (by omega))) allnil)))) ⟨_, rfl, by kernel_rfl⟩) fun o ho => by
    obtain ⟨s', rfl, h⟩ := ho
    exact q s' h
set_option maxRecDepth 100000 in
theorem m26_look {Q : Out → Frz → Prop} (j : Nat) (cs : List AV) (hv : validB x = true) (q : ∀ b, b = decide (x.id ∈ acc.map (·.id)) → JudgF B F Q6m (s26v mb l i j cs x b) Q) : JudgF B F (sY X26) (st26b mb l i j cs x) Q := by
  have _ := hl
  have _ := hx
  have h10 := ok10 x hf
  rw [hv] at h10
  refine JudgF.seqE (by kernel_rfl) (JudgF.regionPart (by kernel_rfl) (orcC [(19, plainR (bA true))] []) 6 (s26t mb l i j cs x) (of_decide_eq_true (by kernel_rfl)) (by kernel_rfl) (by
    rw [show (s26t mb l i j cs x).log = [Ok Try.prog 10 [.agg [iA (x.id), iA (x.ver), rowI x.args, rowE x.events, bA (x.cut), iA (x.en)]] (plainR (bA true))] by kernel_rfl]
    exact (allc (h10) allnil)) ?_)
  intro γ0 γ w0 a w hg hr hb hF
  have hlist : List.range' 6 ((rOps R6m).size - 6) = [6, 7, 8] := by kernel_rfl
  rw [hlist]
  obtain ⟨o, ho, hown⟩ := hi.map
  have hmb := (hr.frm mb o (by rw [hF]; exact ho)).1
  obtain ⟨v, ps, hrun, hRv⟩ := (hown w hmb).lookup (t := 82) (e := 4) key3 Try.underlying82 (Try.zeroValue4 w) (zd := .lit (.bool false)) (zp := []) (plainElem_bool Try.underlying4 false) (keyOf3 hf.wf.id)
  rw [Dm_at] at hRv
  have hvb : v = .bool (decide (x.id ∈ acc.map (·.id))) := by
    generalize decide (x.id ∈ acc.map (·.id)) = b0 at hRv ⊢
    unfold plainElem at hRv
    rw [Try.underlying4] at hRv
    cases v <;> simp at hRv
    rename_i b
    obtain ⟨rfl, _⟩ := hRv
    rfl
  subst hvb
  have e21 : a.eval (.tmp 21) = .map (some mb) := hr.slot 21 (.sc (.map (some mb))) (by kernel_rfl)
  have e23 : a.eval (.tmp 23) = .int .i64 x.id := hr.slot 23 (iA x.id) (by kernel_rfl)
  generalize hbb : decide (x.id ∈ acc.map (·.id)) = b at hrun
  refine wpOps_valG (o := (rOps R6m)[6]!) (c := .bool b) (w' := w) (by kernel_rfl) (wants_sound hr (by kernel_rfl)) ?_ ?_
  · have ho : ((rOps R6m)[6]!).op = .lookup 82 (.tmp 21) (.tmp 23) false := by kernel_rfl
    simp only [execOp, ho, e21, e23]
    exact v_run hrun
  have hr2 : Rel γ w0 (s26u mb l i j cs x b) (a.put ((rOps R6m)[6]!).dst (.bool b)) w := by
    have hd : ((rOps R6m)[6]!).dst = some 24 := by kernel_rfl
    rw [hd]
    refine hr.put (x := bA b) (by kernel_rfl) ?_
    exact rfl
  refine ops_sound (call := orc []) (t := s26v mb l i j cs x b) [7, 8] ((rOps R6m).toList.drop 7) (by kernel_rfl) (by cases b <;> kernel_rfl) (by
    intro p hp
    rw [show (s26v mb l i j cs x b).log = [Ok Try.prog 10 [.agg [iA (x.id), iA (x.ver), rowI x.args, rowE x.events, bA (x.cut), iA (x.en)]] (plainR (bA true))] by cases b <;> kernel_rfl] at hp
    revert p
    exact (allc (h10) allnil)) hr2 ?_
  intro γ' a' w' hg' hr'
  exact ⟨.go (s26v mb l i j cs x b), F, γ, q b hbb.symm, hg, hF, _, γ', rfl, hg', hr'⟩
end
end Go.Proofs.Ytlekojbcaelpiaa

/- report.read: up to the range over slices.Chunk. -/
namespace Go.Proofs.Ytlekojbcaelpiaa
open Go.RowKit
noncomputable abbrev C44 : Code := bodyOf Try.f44
noncomputable abbrev L44 : Code := sX (sY (sY C44))
noncomputable abbrev K44 : Code := sY (sY (sY C44))
def st44 (b l1 l2 l3 : List Int) (n1 n2 n3 : Nat) : Nat → St
  | 0 => { n := 82, slots := [(0, rowU b), (2, .ptr 2 0), (4, .ptr 4 0), (11, iA (0))], objs := [(2, (30, [iA (0), iA (0), .sc (.slice none 0 0), .sc (.slice none 0 0), bA false, iA (0)])), (4, (91, [.sc (.slice none 0 0), .sc (.slice none 0 0), .sc (.slice none 0 0)]))], lens := [] }
  | 1 => { n := 82, slots := [(0, rowU (b.drop n1)), (2, .ptr 2 0), (4, .ptr 4 0), (11, iA (1))], objs := [(2, (30, [iA (0), iA (0), .sc (.slice none 0 0), .sc (.slice none 0 0), bA false, iA (0)])), (4, (91, [rowI l1, .sc (.slice none 0 0), .sc (.slice none 0 0)]))], lens := [] }
  | 2 => { n := 82, slots := [(0, rowU ((b.drop n1).drop n2)), (2, .ptr 2 0), (4, .ptr 4 0), (11, iA (2))], objs := [(2, (30, [iA (0), iA (0), .sc (.slice none 0 0), .sc (.slice none 0 0), bA false, iA (0)])), (4, (91, [rowI l1, rowI l2, .sc (.slice none 0 0)]))], lens := [] }
  | _ => { n := 82, slots := [(0, rowU (((b.drop n1).drop n2).drop n3)), (2, .ptr 2 0), (4, .ptr 4 0), (11, iA (3))], objs := [(2, (30, [iA (0), iA (0), .sc (.slice none 0 0), .sc (.slice none 0 0), bA false, iA (0)])), (4, (91, [rowI l1, rowI l2, rowI l3]))], lens := [] }
def st44e (a0 a1 a2 a3 : Int) (l2 l3 : List Int) : St := { n := 82, slots := [(2, .ptr 2 0), (4, .ptr 4 0), (9, .ptr 9 0)], objs := [(2, (30, [iA (0), iA (0), .sc (.slice none 0 0), .sc (.slice none 0 0), bA false, iA (0)])), (4, (91, [rowI [a0, a1, a2, a3], rowI l2, rowI l3])), (9, (30, [iA (a0), iA (a1), rowI l2, .sc (.slice none 0 0), bA ((a2 == 1)), iA (a3)]))], lens := [] }
def st44c (l1 l2 l3 : List Int) : St := { n := 82, slots := [(2, .ptr 2 0), (4, .ptr 4 0)], objs := [(2, (30, [iA (0), iA (0), .sc (.slice none 0 0), .sc (.slice none 0 0), bA false, iA (0)])), (4, (91, [rowI l1, rowI l2, rowI l3]))], lens := [] }
noncomputable def s44a (b : List Int) : St := stOf (runCode Try.prog (orc []) (liveOf 44) 0 (Ytlekojbcaelpiaa.pre 2 C44) (start [rowU b] 82))
theorem read_loop (b l1 l2 l3 : List Int) (n1 n2 n3 : Nat) (e1 e2 e3 : Int) (hb : b.length ≤ 900000) (h1 : Ok Try.prog 61 [rowU b] (gRes e1 l1 n1)) (h2 : e1 = 0 → Ok Try.prog 61 [rowU (b.drop n1)] (gRes e2 l2 n2)) (h3 : e1 = 0 → e2 = 0 → Ok Try.prog 61 [rowU ((b.drop n1).drop n2)] (gRes e3 l3 n3))
    (hn1 : e1 = 0 → n1 ≤ b.length) (hn2 : e1 = 0 → e2 = 0 → n2 ≤ (b.drop n1).length) (hn3 : e1 = 0 → e2 = 0 → e3 = 0 → n3 ≤ ((b.drop n1).drop n2).length) {Q : Out → Prop}
    (hgo : ∀ s', e1 = 0 → e2 = 0 → e3 = 0 → Ytlekojbcaelpiaa.clean [2, 4] [2, 4] s' = st44c l1 l2 l3 → Q (.go s'))
    (hret : ∀ s', ¬ (e1 = 0 ∧ e2 = 0 ∧ e3 = 0) → (resVals Try.prog s' Try.f44.results.toList).bind (resOf s') = some (plainR (.tup [zeroA, bA false]), []) → Q (.ret s')) : Judg L44 (s44a b) Q := by
  refine Judg.forEnd (ι := Nat) [0, 2, 4, 11] [2, 4] (st44 b l1 l2 l3 n1 n2 n3) (fun i => 3 - i) (fun i => i ≤ 3 ∧ (1 ≤ i → e1 = 0) ∧ (2 ≤ i → e2 = 0) ∧ (3 ≤ i → e3 = 0)) (by kernel_rfl) (orc []) (liveOf 44) (s1 := stOf (runCode Try.prog (orc []) (liveOf 44) 0 (eR L44) (s44a b))) (by kernel_rfl)
    (by rw [show (stOf (runCode Try.prog (orc []) (liveOf 44) 0 (eR L44) (s44a b))).log = [] by kernel_rfl]; exact allnil) 0 ⟨by omega, by omega, by omega, by omega⟩ (by kernel_rfl) ?_
  rintro i ⟨hi, c1, c2, c3⟩
  have hi' : i = 0 ∨ i = 1 ∨ i = 2 ∨ i = 3 := by omega
  rcases hi' with rfl | rfl | rfl | rfl
  · by_cases he : e1 = 0
    · subst he
      have hn := hn1 rfl
      exact Judg.run' 44 (orcC [(16, gRes 0 l1 n1)] [(27, .val (rowU (b.drop n1)))]) (.go (stOf (runCode Try.prog (orcC [(16, gRes 0 l1 n1)] [(27, .val (rowU (b.drop n1)))]) (liveOf 44) 0 (eB L44) (st44 b l1 l2 l3 n1 n2 n3 0)))) [cmdSlice Try.prog 34 (rowU b) (some (iA ((n1 : Nat) : Int))) none none = some (.val (rowU (b.drop n1))), Ok Try.prog 61 [rowU b] (gRes 0 l1 n1)] (by kernel_rfl) (by kernel_rfl) (allc (by rw [← rowU_drop (b) n1 hn]; exact el34.slLo (rowOf_row _ _ _ _) hn) (allc (h1) allnil)) ⟨1, ⟨by omega, fun _ => rfl, fun h => by omega, fun h => by omega⟩, by omega, by kernel_rfl⟩
    · refine Judg.run' 44 (orcC [(16, gRes e1 l1 n1)] [(21, .val (bA true))]) (.ret (stOf (runCode Try.prog (orcC [(16, gRes e1 l1 n1)] [(21, .val (bA true))]) (liveOf 44) 0 (eB L44) (st44 b l1 l2 l3 n1 n2 n3 0)))) [pB .neq 39 (.tmp 20) (.const (.int .i64 0)) (.int .i64 (e1)) (.int .i64 (0)) (bA true), Ok Try.prog 61 [rowU b] (gRes e1 l1 n1)] (by kernel_rfl) (by kernel_rfl) (allc (hNeq _ _ _ _ _ _ ((by rw [bne_iff_ne]; omega))) (allc (h1) allnil)) ?_
      exact hret _ (fun h => he h.1) (by kernel_rfl)
  · have he1 := c1 (Nat.le_refl _)
    subst he1
    have h2 := h2 rfl
    by_cases he : e2 = 0
    · subst he
      have hn := hn2 rfl rfl
      exact Judg.run' 44 (orcC [(16, gRes 0 l2 n2)] [(27, .val (rowU ((b.drop n1).drop n2)))]) (.go (stOf (runCode Try.prog (orcC [(16, gRes 0 l2 n2)] [(27, .val (rowU ((b.drop n1).drop n2)))]) (liveOf 44) 0 (eB L44) (st44 b l1 l2 l3 n1 n2 n3 1)))) [cmdSlice Try.prog 34 (rowU (b.drop n1)) (some (iA ((n2 : Nat) : Int))) none none = some (.val (rowU ((b.drop n1).drop n2))), Ok Try.prog 61 [rowU (b.drop n1)] (gRes 0 l2 n2)] (by kernel_rfl) (by kernel_rfl) (allc (by rw [← rowU_drop (b.drop n1) n2 hn]; exact el34.slLo (rowOf_row _ _ _ _) hn) (allc (h2) allnil)) ⟨2, ⟨by omega, fun _ => rfl, fun _ => rfl, fun h => by omega⟩, by omega, by kernel_rfl⟩
    · refine Judg.run' 44 (orcC [(16, gRes e2 l2 n2)] [(21, .val (bA true))]) (.ret (stOf (runCode Try.prog (orcC [(16, gRes e2 l2 n2)] [(21, .val (bA true))]) (liveOf 44) 0 (eB L44) (st44 b l1 l2 l3 n1 n2 n3 1)))) [pB .neq 39 (.tmp 20) (.const (.int .i64 0)) (.int .i64 (e2)) (.int .i64 (0)) (bA true), Ok Try.prog 61 [rowU (b.drop n1)] (gRes e2 l2 n2)] (by kernel_rfl) (by kernel_rfl) (allc (hNeq _ _ _ _ _ _ ((by rw [bne_iff_ne]; omega))) (allc (h2) allnil)) ?_
      exact hret _ (fun h => he h.2.1) (by kernel_rfl)
  · have he1 := c1 (by omega)
    have he2 := c2 (by omega)
    subst he1; subst he2
    have h3 := h3 rfl rfl
    by_cases he : e3 = 0
    · subst he
      have hn := hn3 rfl rfl rfl
      exact Judg.run' 44 (orcC [(16, gRes 0 l3 n3)] [(27, .val (rowU (((b.drop n1).drop n2).drop n3)))]) (.go (stOf (runCode Try.prog (orcC [(16, gRes 0 l3 n3)] [(27, .val (rowU (((b.drop n1).drop n2).drop n3)))]) (liveOf 44) 0 (eB L44) (st44 b l1 l2 l3 n1 n2 n3 2)))) [cmdSlice Try.prog 34 (rowU ((b.drop n1).drop n2)) (some (iA ((n3 : Nat) : Int))) none none = some (.val (rowU (((b.drop n1).drop n2).drop n3))), Ok Try.prog 61 [rowU ((b.drop n1).drop n2)] (gRes 0 l3 n3)] (by kernel_rfl) (by kernel_rfl) (allc (by rw [← rowU_drop ((b.drop n1).drop n2) n3 hn]; exact el34.slLo (rowOf_row _ _ _ _) hn) (allc (h3) allnil)) ⟨3, ⟨by omega, fun _ => rfl, fun _ => rfl, fun _ => rfl⟩, by omega, by kernel_rfl⟩
    · refine Judg.run' 44 (orcC [(16, gRes e3 l3 n3)] [(21, .val (bA true))]) (.ret (stOf (runCode Try.prog (orcC [(16, gRes e3 l3 n3)] [(21, .val (bA true))]) (liveOf 44) 0 (eB L44) (st44 b l1 l2 l3 n1 n2 n3 2)))) [pB .neq 39 (.tmp 20) (.const (.int .i64 0)) (.int .i64 (e3)) (.int .i64 (0)) (bA true), Ok Try.prog 61 [rowU ((b.drop n1).drop n2)] (gRes e3 l3 n3)] (by kernel_rfl) (by kernel_rfl) (allc (hNeq _ _ _ _ _ _ ((by rw [bne_iff_ne]; omega))) (allc (h3) allnil)) ?_
      exact hret _ (fun h => he h.2.2) (by kernel_rfl)
  · have he1 := c1 (by omega)
    have he2 := c2 (by omega)
    have he3 := c3 (by omega)
    subst he1; subst he2; subst he3
    refine Judg.run' 44 (orc []) (.exit 0 (stOf (runCode Try.prog (orc []) (liveOf 44) 0 (eB L44) (st44 b l1 l2 l3 n1 n2 n3 3)))) [] (by kernel_rfl) (by kernel_rfl) allnil ?_
    exact hgo _ rfl rfl rfl (by kernel_rfl)
theorem read_fail (b l1 l2 l3 : List Int) (n1 n2 n3 : Nat) (e1 e2 e3 : Int) (hb : b.length ≤ 900000) (h1 : Ok Try.prog 61 [rowU b] (gRes e1 l1 n1)) (h2 : e1 = 0 → Ok Try.prog 61 [rowU (b.drop n1)] (gRes e2 l2 n2)) (h3 : e1 = 0 → e2 = 0 → Ok Try.prog 61 [rowU ((b.drop n1).drop n2)] (gRes e3 l3 n3))
    (hn1 : e1 = 0 → n1 ≤ b.length) (hn2 : e1 = 0 → e2 = 0 → n2 ≤ (b.drop n1).length) (hn3 : e1 = 0 → e2 = 0 → e3 = 0 → n3 ≤ ((b.drop n1).drop n2).length) (hl3 : l3.length ≤ 900000) (hbad : ¬ (e1 = 0 ∧ e2 = 0 ∧ e3 = 0 ∧ l1.length = 4 ∧ l3.length % 3 = 0)) :
    Ok Try.prog 44 [rowU b] (plainR (.tup [rpA rp0, bA false])) := by
  refine Ok.judgW Try.func44 (c := C44) rfl (by simp [Try.ntmps44]) ?_
  refine Judg.pre' 44 (orc []) 2 (s44a b) [] (by kernel_rfl) (by kernel_rfl) allnil ?_
  refine Judg.seqE (by kernel_rfl) (read_loop b l1 l2 l3 n1 n2 n3 e1 e2 e3 hb h1 h2 h3 hn1 hn2 hn3 (fun s' c1 c2 c3 hs => ?_) (fun s' _ hs => fin_retW (l := []) _ hs allnil ResImp.zeroTup))
  show Judg K44 s' _
  refine Judg.clean hs ?_
  by_cases hl4 : l1.length = 4
  case neg =>
    refine Judg.run' 44 (orc [(33, .val (bA true))]) (.ret (stOf (runCode Try.prog (orc [(33, .val (bA true))]) (liveOf 44) 0 (K44) (st44c l1 l2 l3)))) [pB .neq 3 (.tmp 32) (.const (.int .i64 4)) (.int .i64 ((l1.length : Nat) : Int)) (.int .i64 (4)) (bA true)] (by kernel_rfl) (by kernel_rfl) (allc (hNeq _ _ _ _ _ _ ((by rw [bne_iff_ne]; omega))) allnil) ?_
    exact fin_retW (l := []) _ (by kernel_rfl) allnil ResImp.zeroTup
  obtain ⟨a0, a1, a2, a3, rfl⟩ : ∃ a0 a1 a2 a3, l1 = [a0, a1, a2, a3] := by
    match l1, hl4 with
    | [a0, a1, a2, a3], _ => exact ⟨a0, a1, a2, a3, rfl⟩
  by_cases hm : l3.length % 3 = 0
  case neg =>
    refine Judg.run' 44 (orc [(38, .val (iA ((l3.length % 3 : Nat) : Int))), (39, .val (bA true))]) (.ret (stOf (runCode Try.prog (orc [(38, .val (iA ((l3.length % 3 : Nat) : Int))), (39, .val (bA true))]) (liveOf 44) 0 (K44) (st44c [a0, a1, a2, a3] l2 l3)))) [pB .neq 3 (.tmp 38) (.const (.int .i64 0)) (.int .i64 ((l3.length % 3 : Nat) : Int)) (.int .i64 (0)) (bA true), pB .rem 3 (.tmp 37) (.const (.int .i64 3)) (.int .i64 ((l3.length : Nat) : Int)) (.int .i64 (3)) (iA ((l3.length % 3 : Nat) : Int))] (by kernel_rfl) (by kernel_rfl) (allc (hNeq _ _ _ _ _ _ ((by rw [bne_iff_ne]; omega))) (allc (hRem _ _ _ _ _ _ (by omega) (by rw [Int.tmod_eq_emod_of_nonneg (by omega)]; omega) ⟨by omega, by omega⟩) allnil)) ?_
    exact fin_retW (l := []) _ (by kernel_rfl) allnil ResImp.zeroTup
  exact absurd ⟨c1, c2, c3, hl4, hm⟩ hbad
/-- what stands ahead of the range over the function -/
noncomputable def s44e (a0 a1 a2 a3 : Int) (l2 l3 : List Int) : St := stOf (runCode Try.prog (orc [(38, .val (iA ((l3.length % 3 : Nat) : Int))), (39, .val (bA false)), (54, .val (bA ((a2 == 1))))]) (liveOf 44) 0 (Ytlekojbcaelpiaa.pre 2 K44) (st44c [a0, a1, a2, a3] l2 l3))
theorem read_mid (a0 a1 a2 a3 : Int) (l2 l3 : List Int) (hm : l3.length % 3 = 0) (hl3 : l3.length ≤ 900000) : Judg (sX K44) (st44c [a0, a1, a2, a3] l2 l3) (fun o => ∃ s, o = .go s ∧ Judg (sX (sY K44)) s fun o => ∃ s, o = .go s ∧ Ytlekojbcaelpiaa.clean [2, 4, 9] [2, 4, 9] s = st44e a0 a1 a2 a3 l2 l3) := by
  refine Judg.run' 44 (orc [(38, .val (iA ((l3.length % 3 : Nat) : Int))), (39, .val (bA false))]) (.go (stOf (runCode Try.prog (orc [(38, .val (iA ((l3.length % 3 : Nat) : Int))), (39, .val (bA false))]) (liveOf 44) 0 (sX K44) (st44c [a0, a1, a2, a3] l2 l3)))) [pB .neq 3 (.tmp 38) (.const (.int .i64 0)) (.int .i64 ((l3.length % 3 : Nat) : Int)) (.int .i64 (0)) (bA false), pB .rem 3 (.tmp 37) (.const (.int .i64 3)) (.int .i64 ((l3.length : Nat) : Int)) (.int .i64 (3)) (iA ((l3.length % 3 : Nat) : Int))] (by kernel_rfl) (by kernel_rfl) (allc (hNeq _ _ _ _ _ _ ((by rw [bne_eq_false_iff_eq]; omega))) (allc (hRem _ _ _ _ _ _ (by omega) (by rw [Int.tmod_eq_emod_of_nonneg (by omega)]; omega) ⟨by omega, by omega⟩) allnil)) ⟨_, rfl, ?_⟩
  exact Judg.run' 44 (orc [(54, .val (bA ((a2 == 1))))]) (.go (stOf (runCode Try.prog (orc [(54, .val (bA ((a2 == 1))))]) (liveOf 44) 0 (sX (sY K44)) ((stOf (runCode Try.prog (orc [(38, .val (iA ((l3.length % 3 : Nat) : Int))), (39, .val (bA false))]) (liveOf 44) 0 (sX K44) (st44c [a0, a1, a2, a3] l2 l3))))))) [pB .eql 3 (.tmp 53) (.const (.int .i64 1)) (.int .i64 (a2)) (.int .i64 (1)) (bA ((a2 == 1))), pB .neq 3 (.tmp 38) (.const (.int .i64 0)) (.int .i64 ((l3.length % 3 : Nat) : Int)) (.int .i64 (0)) (bA false), pB .rem 3 (.tmp 37) (.const (.int .i64 3)) (.int .i64 ((l3.length : Nat) : Int)) (.int .i64 (3)) (iA ((l3.length % 3 : Nat) : Int))] (by kernel_rfl) (by kernel_rfl) (allc (hEql _ _ _ _ _ _ rfl) (allc (hNeq _ _ _ _ _ _ ((by rw [bne_eq_false_iff_eq]; omega))) (allc (hRem _ _ _ _ _ _ (by omega) (by rw [Int.tmod_eq_emod_of_nonneg (by omega)]; omega) ⟨by omega, by omega⟩) allnil))) ⟨_, rfl, by kernel_rfl⟩
end Go.Proofs.Ytlekojbcaelpiaa

/- report.read. -/
namespace Go.Proofs.Ytlekojbcaelpiaa
open Go.RowKit

theorem wp_pre (H : Orc) (live : Nat → Option (List Nat × List Nat)) (fuel : Nat) {Q : Exit → Act → World → Prop} {w0 : World} : ∀ (n : Nat) {c : Code} {s s' : St} {γ : Gh} {a : Act} {w : World}, runCode Try.prog H live fuel (Ytlekojbcaelpiaa.pre n c) s = some (.go s') → (∀ p ∈ s'.log, p) → Rel γ w0 s a w →
    (∀ γ' a' w', GExt γ γ' → Rel γ' w0 s' a' w' → (Ytlekojbcaelpiaa.post n c).wp Try.prog Q a' w') → c.wp Try.prog Q a w
  | 0, c, s, s', γ, a, w, h, _, hr, k => by
    have e : Ytlekojbcaelpiaa.pre 0 c = .skip := by cases c <;> rfl
    have e2 : Ytlekojbcaelpiaa.post 0 c = c := by cases c <;> rfl
    rw [e] at h
    simp only [runCode, Option.some.injEq, Out.go.injEq] at h
    subst h
    have := k γ a w (GExt.refl γ) hr
    rw [e2] at this; exact this
  | n + 1, c, s, s', γ, a, w, h, hl, hr, k => by
    cases c with
    | seq x y =>
      simp only [Ytlekojbcaelpiaa.pre, runCode] at h
      simp only [Ytlekojbcaelpiaa.post] at k
      cases ha : runCode Try.prog H live fuel x s with
      | none => rw [ha] at h; simp at h
      | some o =>
        rw [ha] at h
        cases o with
        | go s1 =>
          simp only at h
          refine wp_seq (wp_mono (code_sound mixed_ok x ha (fun p hp => hl p (code_log _ h p hp)) hr) fun e a' w' p => ?_)
          cases e with
          | normal =>
            obtain ⟨s2, γ2, e2, hg, hr2⟩ := p
            cases e2
            exact wp_pre H live fuel n h hl hr2 fun γ' a' w' hg' hr' => k γ' a' w' (hg.trans hg') hr'
          | exit id => obtain ⟨s2, γ2, e2, hg, hr2⟩ := p; cases e2
          | ret => obtain ⟨s2, γ2, e2, hg, hr2⟩ := p; cases e2
          | _ => exact p.elim
        | exit id s1 => simp at h
        | ret s1 => simp at h
    | _ =>
      simp only [Ytlekojbcaelpiaa.pre, runCode, Option.some.injEq, Out.go.injEq] at h
      subst h
      have := k γ a w (GExt.refl γ) hr
      simp only [Ytlekojbcaelpiaa.post] at this; exact this
theorem wp_of_judg {c : Code} {s : St} {Qo : Out → Prop} {Q : Exit → Act → World → Prop} {γ : Gh} {w0 w : World} {a : Act} (J : Judg c s Qo) (hr : Rel γ w0 s a w) (hno : ∀ out, Qo out → ∃ s', out = .go s') (hgo : ∀ s' γ' a' w', Qo (.go s') → GExt γ γ' → Rel γ' w0 s' a' w' → Q .normal a' w') : c.wp Try.prog Q a w :=
  wp_mono (J _ _ _ _ hr) fun e a' w' ⟨o, q, p⟩ => by
    obtain ⟨s', rfl⟩ := hno o q
    cases e with
    | normal => obtain ⟨s2, γ2, e2, hg, hr2⟩ := p; cases e2; exact hgo _ _ _ _ q hg hr2
    | exit id => obtain ⟨s2, γ2, e2, hg, hr2⟩ := p; cases e2
    | ret => obtain ⟨s2, γ2, e2, hg, hr2⟩ := p; cases e2
    | _ => exact p.elim
theorem Rel.cleaned {γ : Gh} {w0 w : World} {s t : St} {a : Act} {L N : List Nat} (hr : Rel γ w0 s a w) (h : Ytlekojbcaelpiaa.clean L N s = t) : Rel γ w0 t a w := by
  subst h; exact (hr.mask L N).withLog []
theorem Rel.anchor {γ : Gh} {w0 w1 w : World} {s : St} {a : Act} (hr : Rel γ w0 s a w) (h : Below γ.base w1 w) : Rel γ w1 s a w :=
  ⟨hr.size, hr.defers, h, hr.base, hr.slot, hr.obj, hr.len, hr.inj, hr.blt, hr.plt, hr.frm⟩
theorem GExt.unfr {γ γ' : Gh} {f : Nat → Option Obj} (h : GExt { γ with fr := f } γ') : GExt γ { γ' with fr := γ.fr } := ⟨h.base, h.old, rfl⟩

noncomputable abbrev T44 : Code := sY (sY K44)
noncomputable abbrev R13 : Code := sX (sX T44)
noncomputable abbrev RF44 : Code := bX (sY (sX T44))
noncomputable abbrev R16 : Code := sX (sY T44)
def rfA : Code → Code | .rangeFunc _ _ x _ => x | _ => .skip
def rfB : Code → Code | .rangeFunc _ _ _ x => x | _ => .skip
noncomputable abbrev G15 : Code := bX (rfB RF44)
def st44r (a0 a1 a3 : Int) (cu : Bool) (l2 l3 : List Int) (j : Nat) (es : List AV) : St := { n := 82, slots := [(2, .ptr 2 0), (9, .ptr 9 0), (63, rowI l3)], objs := [(2, (30, [iA (0), iA (0), .sc (.slice none 0 0), .sc (.slice none 0 0), bA false, iA (0)])), (9, (30, [iA (a0), iA (a1), rowI l2, .row (some (79, 71)) 3 (j) (es), bA (cu), iA (a3)]))], lens := [(79, j * 3)] }
def st44s (a0 a1 a3 : Int) (cu : Bool) (l2 l3 : List Int) (j : Nat) (es : List AV) (p k m : Int) : St := { n := 82, slots := [(10, .row none 1 (3) ([iA (p), iA (k), iA (m)])), (2, .ptr 2 0), (9, .ptr 9 0), (63, rowI l3)], objs := [(2, (30, [iA (0), iA (0), .sc (.slice none 0 0), .sc (.slice none 0 0), bA false, iA (0)])), (9, (30, [iA (a0), iA (a1), rowI l2, .row (some (79, 71)) 3 (j) (es), bA (cu), iA (a3)]))], lens := [(79, j * 3)] }
noncomputable def s44t (a0 a1 a3 : Int) (cu : Bool) (l2 l3 : List Int) (j : Nat) (es : List AV) (p k m : Int) : St := match runRegion Try.prog (orc [(79, .grow 79 71 3 (j) (es) (1) ([iA (p), iA (k), iA (m)]))]) (rOps G15) true (st44s a0 a1 a3 cu l2 l3 j es p k m) with | some s => s | none => { n := 0, slots := [], objs := [], lens := [] }
noncomputable def s44u (a0 a1 a3 : Int) (cu : Bool) (l2 l3 : List Int) (j : Nat) (es : List AV) : St := match runS Try.prog (orc []) (rOps R16) (rOps R16).toList (st44r a0 a1 a3 cu l2 l3 j es) with | some s => s | none => { n := 0, slots := [], objs := [], lens := [] }
def evAt (l : List Int) (j : Nat) : Ev := ⟨l.getD (3 * j) 0, l.getD (3 * j + 1) 0, l.getD (3 * j + 2) 0⟩
theorem evs3_map : ∀ (q : Nat) (l : List Int), l.length = 3 * q → (List.finRange q).map (fun j => evAt l j.1) = evs3 l := by
  intro q l h
  refine List.ext_getElem? fun j => ?_
  by_cases hj : j < q
  · obtain ⟨p, hp⟩ : ∃ p, l[3 * j]? = some p := ⟨l[3 * j]'(by omega), List.getElem?_eq_getElem (by omega)⟩
    obtain ⟨k, hk⟩ : ∃ k, l[3 * j + 1]? = some k := ⟨l[3 * j + 1]'(by omega), List.getElem?_eq_getElem (by omega)⟩
    obtain ⟨n, hn⟩ : ∃ n, l[3 * j + 2]? = some n := ⟨l[3 * j + 2]'(by omega), List.getElem?_eq_getElem (by omega)⟩
    rw [evs3_at l j p k n hp hk hn, List.getElem?_map, List.getElem?_eq_getElem (by simpa using hj)]
    simp [evAt, List.getD, hp, hk, hn]
  · rw [List.getElem?_eq_none (by simp; omega), List.getElem?_eq_none (by rw [evs3_length]; omega)]
/-- the names that stand between two rounds -/
structure Named (bs bn : Nat) (γ : Gh) (W : World) : Prop where
  nm : ∀ d b, γ.blk d = some b → (d = 2 ∨ d = 9 ∨ d = 79) ∧ b ≠ bs ∧ b ≠ bn ∧ ∃ o : Obj, W.heap[b]? = some o ∧ o.isCells = true
  fr : γ.fr = fun _ => none
open Classical in
noncomputable def frz (γ : Gh) (W : World) (k : Nat) : Option Obj := if ∃ d, γ.blk d = some k then none else W.heap[k]?
theorem frz_some {γ : Gh} {W : World} {k : Nat} {o : Obj} (h : frz γ W k = some o) : W.heap[k]? = some o ∧ ∀ d, γ.blk d ≠ some k := by
  unfold frz at h
  split at h
  · cases h
  · rename_i hn; exact ⟨h, fun d hd => hn ⟨d, hd⟩⟩
theorem frz_of {γ : Gh} {W : World} {k : Nat} (h : ∀ d, γ.blk d ≠ some k) : frz γ W k = W.heap[k]? := by
  unfold frz; rw [if_neg]; rintro ⟨d, hd⟩; exact h d hd
section
variable (a0 a1 a3 : Int) (cu : Bool) (l2 l3 : List Int)
/-- one round -/
theorem read_round {bs bn l n : Nat} {γ : Gh} {w0 W : World} {a3' a : Act} {j : Nat} {es : List AV} {p k m : Int} {Q : Exit → Act → World → Prop} (hr : Rel γ w0 (st44r a0 a1 a3 cu l2 l3 j es) a3' W) (hn : Named bs bn γ W) (hj : j ≤ 1000000) (hbs : bs < W.heap.size) (hbn : bn < W.heap.size)
    (ha : Rel γ w0 (st44s a0 a1 a3 cu l2 l3 j es p k m) a W) (hsame : ∀ t, t = 2 ∨ t = 9 ∨ t = 63 → a.tmps.getD t undef = a3'.tmps.getD t undef) (hQ0 : ∀ a w, ¬ Q .outgrown a w)
    (hQ : ∀ a' W', KeepsFrom 0 W W' → KpB bs bn W W' → (∃ γ', GExt γ γ' ∧ Rel γ' w0 (st44r a0 a1 a3 cu l2 l3 (j + 1) (es ++ [iA p, iA k, iA m])) a3' W' ∧ Named bs bn γ' W') → Q .normal a' W') :
    G15.wpIn (RF l) n Try.prog Q a W := by
  have hc : G15 = .region (rId G15) (rOps G15) true := by kernel_rfl
  rw [hc]
  have hfz := (ha.anchor (Below.refl _ W)).freeze (frz γ W) (fun k o h => frz_some h)
  refine region_round2 (call := (orc [(79, .grow 79 71 3 (j) (es) (1) ([iA (p), iA (k), iA (m)]))])) (t := s44t a0 a1 a3 cu l2 l3 j es p k m) mixed_ok hfz (by kernel_rfl) (by
    rw [show (s44t a0 a1 a3 cu l2 l3 j es p k m).log = [cmdAppend Try.prog 23 23 (.row (some (79, 71)) 3 (j) (es)) (.row (some (78, 71)) 3 (1) ([iA (p), iA (k), iA (m)])) = some (.grow 79 71 3 (j) (es) (1) ([iA (p), iA (k), iA (m)])), j * 3 = j * 3] by kernel_rfl]
    exact (allc (el23.grow (rowOf_row _ _ _ _) (fits_of (by omega) (by omega))) (allc (rfl) allnil))) hQ0 (by kernel_rfl) ?_
  intro γ' a' W' hg hr' hT
  have hfr : ∀ b o, W.heap[b]? = some o → (∀ d, γ.blk d ≠ some b) → W'.heap[b]? = some o ∧ ∀ d, γ'.blk d ≠ some b := fun b o hb hd => by
    refine hr'.frm b o ?_
    rw [hg.fr]; show frz γ W b = some o
    rw [frz_of hd]; exact hb
  have hbs' := hfr bs _ (Array.getElem?_eq_getElem hbs) (fun d hd => (hn.nm d bs hd).2.1 rfl)
  have hbn' := hfr bn _ (Array.getElem?_eq_getElem hbn) (fun d hd => (hn.nm d bn hd).2.2.1 rfl)
  have hbel : Below γ'.base W W' := hr'.below
  have hkeep : KeepsFrom 0 W W' := ⟨hbel.size, fun k o _ hk ho => (hfr k o hk (fun d hd => by
    obtain ⟨_, _, _, o', h1, h2⟩ := hn.nm d k hd
    rw [hk] at h1; cases h1; rw [ho] at h2; cases h2)).1⟩
  refine hQ a' W' hkeep ⟨hbs'.1.trans (Array.getElem?_eq_getElem hbs).symm, hbn'.1.trans (Array.getElem?_eq_getElem hbn).symm⟩ ?_
  have hcl : Ytlekojbcaelpiaa.clean [2, 9, 63] [2, 9, 79] (s44t a0 a1 a3 cu l2 l3 j es p k m) = st44r a0 a1 a3 cu l2 l3 (j + 1) (es ++ [iA p, iA k, iA m]) := by kernel_rfl
  have h1 := hr'.cleaned hcl
  -- the function's own frame
  have h2 : Rel γ' W (st44r a0 a1 a3 cu l2 l3 (j + 1) (es ++ [iA p, iA k, iA m])) a3' W' := by
    refine ⟨hr.size, hr.defers, h1.below, h1.base, fun t x hx => ?_, h1.obj, h1.len, h1.inj, h1.blt, h1.plt, h1.frm⟩
    have ht : t = 2 ∨ t = 9 ∨ t = 63 := by
      simp only [st44r, look_cons] at hx
      split at hx
      · rename_i e; exact .inl e.symm
      · split at hx
        · rename_i e; exact .inr (.inl e.symm)
        · split at hx
          · rename_i e; exact .inr (.inr e.symm)
          · cases hx
    have hnd : t ∉ dsts (rOps G15) := by
      have : dsts (rOps G15) = [66, 67, 68, 69, 70, 71, 72, 73, 74, 75, 76, 77, 78, 79, 80] := by kernel_rfl
      rw [this]
      rcases ht with rfl | rfl | rfl <;> decide
    have := h1.slot t x hx
    rw [hT t hnd, hsame t ht] at this
    exact this
  have h3 := h2.anchor (w1 := w0) ((by rw [hg.base]; exact hr.below : Below γ'.base w0 W).trans h1.below)
  have h4 := (h3.freeze γ.fr (fun k o h => by rw [hn.fr] at h; cases h)).forget [2, 9, 79] (fun t x hx d hd => by
      simp only [st44r, look_cons] at hx
      split at hx
      · cases hx; simp [ment, ment1] at hd; simp [hd.symm]
      · split at hx
        · cases hx; simp [ment, ment1] at hd; simp [hd.symm]
        · split at hx
          · cases hx; simp [rowI, ment, ment1] at hd
          · cases hx) (fun d ty xs hx => by
      simp only [st44r, look_cons] at hx
      split at hx
      · rename_i e; cases hx; exact ⟨by simp [e.symm], fun d' h => by simp [ment1, iA, bA] at h⟩
      · split at hx
        · rename_i e; cases hx; exact ⟨by simp [e.symm], fun d' h => by simp [ment1, rowI, iA, bA] at h; simp [h.symm]⟩
        · cases hx)
  refine ⟨{ γ' with fr := γ.fr, blk := fun d => if d ∈ [2, 9, 79] then γ'.blk d else none }, ⟨hg.base, hg.old, rfl⟩, h4, fun d b hd => ?_, hn.fr⟩
  simp only at hd
  split at hd
  case isFalse => cases hd
  rename_i hdm
  refine ⟨by simpa using hdm, fun e => ?_, fun e => ?_, ?_⟩
  · subst e; exact hbs'.2 d hd
  · subst e; exact hbn'.2 d hd
  · simp only [List.mem_cons, List.not_mem_nil, or_false] at hdm
    rcases hdm with rfl | rfl | rfl
    · obtain ⟨_, b', cs, q1, _, q3, _⟩ := h2.obj 2 _ _ (by rfl)
      rw [hd] at q1; cases q1; exact ⟨_, q3, rfl⟩
    · obtain ⟨_, b', cs, q1, _, q3, _⟩ := h2.obj 9 _ _ (by rfl)
      rw [hd] at q1; cases q1; exact ⟨_, q3, rfl⟩
    · obtain ⟨_, b', cs, q1, _, q3, q4, _⟩ := h2.obj 9 _ _ (by rfl)
      obtain ⟨c, _, hv⟩ := q4.at_ (i := 3) (x := .row (some (79, 71)) 3 (j + 1) (es ++ [iA p, iA k, iA m])) rfl
      rcases (hv.2 _ (by rfl)).2 rfl with ⟨_, _, h0⟩ | ⟨us, ho, hb⟩
      · omega
      · rcases ho.2 with ⟨_, h0⟩ | ⟨g, cap, cur, rfl, _, hgc, _⟩
        · omega
        · have := hb g rfl
          rw [hd] at this; cases this
          exact ⟨_, hgc, rfl⟩
end
end Go.Proofs.Ytlekojbcaelpiaa

/- report.Merge: the first loop, a round. -/
namespace Go.Proofs.Ytlekojbcaelpiaa
open Go.RowKit
theorem owns_of {P : Program} {k : TypeId} {R : Value → Option (DataW Nat × List MemPlace)} {b n : Nat} {D : DN} {w w' : World} (h : w.ownsMap P k R b n D) (e : w'.heap[b]? = w.heap[b]?) : w'.ownsMap P k R b n D := by
  obtain ⟨es, clock, hb, r⟩ := h
  exact ⟨es, clock, e.trans hb, r⟩
def updF (F : Frz) (mb : Nat) (o : Option Obj) : Frz := fun k => if k = mb then o else F k
theorem Fx_upd (F : Frz) (mb : Nat) (o : Option Obj) : Fx (updF F mb o) mb = Fx F mb := by
  funext k; unfold Fx updF; split <;> rfl
section
variable {B : Nat} {F0 F : Frz} {mb : Nat} {l : List Rp} {acc : List Rp} {es : List Elm} {i : Nat} {x : Rp}
set_option maxRecDepth 100000 in
theorem m26_upd {Q : Out → Frz → Prop} (hf : Fit x) (hi : Inv26 B F0 mb acc es F) (hmb : B ≤ mb) (hn : acc.length ≤ 1000000) (j : Nat) (cs : List AV)
    (q : ∀ o', (∀ w : World, w.heap[mb]? = some o' → w.ownsMap (H := Nat) Try.prog 3 (plainElem Try.prog 4) mb (acc.length + 1) (Dm (acc.map (·.id) ++ [x.id]))) → Q (.go (s26w mb l i j cs x)) (updF F mb (some o'))) : JudgF B F R7m (st26b mb l i j cs x) Q := by
  refine JudgF.regionPart (by kernel_rfl) (orc []) 3 (s26w mb l i j cs x) (of_decide_eq_true (by kernel_rfl)) (by kernel_rfl) (by
    rw [show (s26w mb l i j cs x).log = [] by kernel_rfl]
    exact allnil) ?_
  intro γ0 γ w0 a w hg hr hb hF
  have hlist : List.range' 3 ((rOps R7m).size - 3) = [3] := by kernel_rfl
  rw [hlist]
  obtain ⟨o, ho, hown⟩ := hi.map
  have hfm := hr.frm mb o (by rw [hF]; exact ho)
  have hw := hown w hfm.1
  have e27 : a.eval (.tmp 27) = .map (some mb) := hr.slot 27 (.sc (.map (some mb))) (by kernel_rfl)
  have e29 : a.eval (.tmp 29) = .int .i64 x.id := hr.slot 29 (iA x.id) (by kernel_rfl)
  obtain ⟨w', hrun, hown', hgrow⟩ := hw.update (t := 82) (e := 4) (val := .bool true) key3 Try.underlying82 (by simp [maxLen]; omega) (keyOf3 hf.wf.id) (plainElem_bool Try.underlying4 true)
  rw [← Dm_snoc] at hown'
  obtain ⟨es1, cl1, hh1, _⟩ := id hown'
  refine wpOps_skip (o := (rOps R7m)[3]!) (w' := w') (by kernel_rfl) (by kernel_rfl) ?_ ?_
  · have ho : ((rOps R7m)[3]!).op = .mapUpdate 82 (.tmp 27) (.tmp 29) (.const (.bool true)) := by kernel_rfl
    simp only [execOp, ho, e27, e29]
    have e : a.eval (.const (.bool true)) = .bool true := rfl
    rw [e, Sem.run_bind, hrun]; rfl
  have hd : ((rOps R7m)[3]!).dst = none := by kernel_rfl
  rw [hd]
  have h1 := hr.freeze (Fx F mb) (fun k o h => by
    unfold Fx at h; split at h
    · cases h
    · exact hr.frm k o (by rw [hF]; exact h))
  have h2 := h1.turned (w' := w') hgrow (fun r e => by
      cases e
      obtain ⟨es2, c2, h3, _⟩ := hw
      exact ⟨by show γ.base ≤ mb; omega, _, h3, rfl⟩) (fun d ty xs b _ hb' e => by cases e; exact hfm.2 d hb') (fun d b hb' e => by cases e; exact hfm.2 d hb') (fun k o h e => by
        cases e
        simp [Fx] at h)
  have h3 := h2.freeze (updF F mb (some (.map es1 cl1))) (fun k o h => by
    unfold updF at h
    split at h
    · rename_i e; subst e; cases h; exact ⟨hh1, hfm.2⟩
    · rename_i e
      exact h2.frm k o (by show Fx F mb k = some o; unfold Fx; rw [if_neg e]; exact h))
  refine ⟨.go (s26w mb l i j cs x), updF F mb (some (.map es1 cl1)), { γ with fr := updF F mb (some (.map es1 cl1)) }, q _ ?_, ⟨hg.1, hg.2⟩, rfl, _, _, rfl, GExt.refl _, h3⟩
  intro W hW
  have hl : (acc.map (·.id)).length = acc.length := by simp
  rw [hl] at hown'
  exact owns_of hown' (hW.trans hh1.symm)

/-- what has been cloned is not touched any more -/
theorem m26_frz {c : Code} {Q : Out → Frz → Prop} (hi1 : ∀ k o, F0 k = some o → k ≠ mb ∧ F k = some o) (hi2 : es.map (·.r) = acc)
    (hi3 : ∀ e ∈ es, FrV B (Fx F mb) (.slice e.A2 e.r.args.length e.k2) (rowI e.r.args) ∧ FrV B (Fx F mb) (.slice e.A3 e.r.events.length e.k3) (rowE e.r.events)) (j : Nat) (cs : List AV)
    (q : ∀ (F' : Frz) (e : Elm), e.r = x → Inv26 B F0 mb (acc ++ [x]) (es ++ [e]) F' → JudgF B F' c (st26e mb l i j cs x e.A2 e.k2 e.A3 e.k3) Q)
    (hm : MapIn F mb ((acc ++ [x]).map (·.id))) : JudgF B F c (st26d mb l i j cs x) Q := by
  refine JudgF.ghost fun γ w0 a w hr hb hF => ?_
  obtain ⟨c2, v2, hr2⟩ := hr.cellSc 7 2 (ty := 30) (xs := [iA x.id, iA x.ver, .row (some (32, 3)) 1 x.args.length (x.args.map iA), .row (some (35, 71)) 3 x.events.length (evA x.events), bA x.cut, iA x.en]) rfl (by simp)
  obtain ⟨c3, v3, hr3⟩ := hr2.cellSc 7 3 (ty := 30) (xs := [iA x.id, iA x.ver, .sc c2, .row (some (35, 71)) 3 x.events.length (evA x.events), bA x.cut, iA x.en]) rfl (by simp)
  have v2' : AVR1 γ (st26d mb l i j cs x).lens w c2 (.row (some (32, 3)) 1 x.args.length ((ints x.args).map .sc)) := by rw [← iA_map]; exact v2
  have v3' : AVR1 γ (st26d mb l i j cs x).lens w c3 (.row (some (35, 71)) 3 x.events.length ((evs x.events).map .sc)) := by rw [← evA_map]; exact v3
  obtain ⟨A2, k2, rfl, f2⟩ := frV_own v2' (by rfl)
  obtain ⟨A3, k3, rfl, f3⟩ := frV_own v3' (by rfl)
  have hcl := hr3.cleaned (L := [4, 5, 7, 12, 13, 14]) (N := [7, 41]) (t := st26e mb l i j cs x A2 k2 A3 k3) (by kernel_rfl)
  have hfg := hcl.forget [7, 41] (fun t y hy d hd => by
      simp only [st26e, look_cons] at hy
      repeat' (split at hy; · cases hy; simp [ment, ment1, rowR, iA] at hd; try simp [hd.symm])
      cases hy) (fun d ty xs hx => by
      simp only [st26e, look_cons] at hx
      split at hx
      · rename_i e
        cases hx; subst e
        exact ⟨by simp, fun d' h => by simp [ment1, iA, bA] at h⟩
      · cases hx)
  obtain ⟨om, hom, hown⟩ := id hm
  have hmbn : ∀ d, γ.blk d ≠ some mb := (hr.frm mb om (by rw [hF]; exact hom)).2
  let F3 : Frz := fun k => if γ.blk 32 = some k ∨ γ.blk 35 = some k then w.heap[k]? else F k
  have hsub : ∀ k o, F k = some o → F3 k = some o := fun k o h => by
    have := hr.frm k o (by rw [hF]; exact h)
    show (if _ then _ else _) = _
    split
    · exact this.1
    · exact h
  have hF3mb : F3 mb = F mb := by
    show (if _ then _ else _) = _
    rw [if_neg]; rintro (h | h) <;> exact hmbn _ h
  have hFx : ∀ k o, Fx F mb k = some o → Fx F3 mb k = some o := fun k o h => by
    unfold Fx at h ⊢
    split at h
    · cases h
    · rename_i e; rw [if_neg e]; exact hsub k o h
  have hin : ∀ d g o, (d = 32 ∨ d = 35) → γ.blk d = some g → w.heap[g]? = some o → Fx F3 mb g = some o := fun d g o hd hg ho => by
    unfold Fx
    rw [if_neg (fun e => hmbn d (by rw [hg, e]))]
    show (if _ then _ else _) = _
    rw [if_pos (by rcases hd with rfl | rfl <;> simp [hg])]; exact ho
  have hfz := hfg.freeze F3 (fun k o h => by
    simp only [F3] at h
    split at h
    · rename_i hc
      refine ⟨h, fun d hd => ?_⟩
      simp only at hd
      split at hd
      · rename_i hmem
        rcases hc with hc | hc
        · have := hcl.inj _ _ _ hc hd; subst this; simp at hmem
        · have := hcl.inj _ _ _ hc hd; subst this; simp at hmem
      · cases hd
    · have := hcl.frm k o (by rw [hF]; exact h)
      refine ⟨this.1, fun d hd => ?_⟩
      simp only at hd
      split at hd
      · exact this.2 d hd
      · cases hd)
  refine ⟨{ γ with blk := fun d => if d ∈ [7, 41] then γ.blk d else none, fr := F3 }, st26e mb l i j cs x A2 k2 A3 k3, ⟨rfl, fun _ _ _ h => h⟩, hfz, q F3 ⟨x, A2, k2, A3, k3⟩ rfl ⟨fun k o h => ⟨(hi1 k o h).1, hsub k o (hi1 k o h).2⟩, ?_, by simp [hi2], ?_⟩⟩
  · obtain ⟨om', h1, h2⟩ := hm
    exact ⟨om', by rw [hF3mb]; exact h1, h2⟩
  · intro e he
    rcases List.mem_append.1 he with he | he
    · exact ⟨(hi3 e he).1.mono hFx, (hi3 e he).2.mono hFx⟩
    · simp only [List.mem_singleton] at he
      subst he
      constructor
      · show FrV B (Fx F3 mb) _ (rowI x.args)
        unfold rowI; rw [iA_map]
        rcases f2 with ⟨_, h⟩ | ⟨g, o, h1, h2, h3, h4⟩
        · exact h _ _
        · rw [← hb]; exact h4 _ (hin 32 g o (.inl rfl) h1 h3)
      · show FrV B (Fx F3 mb) _ (rowE x.events)
        unfold rowE; rw [evA_map]
        rcases f3 with ⟨_, h⟩ | ⟨g, o, h1, h2, h3, h4⟩
        · exact h _ _
        · rw [← hb]; exact h4 _ (hin 35 g o (.inr rfl) h1 h3)

theorem m26_round {Q : Out → Frz → Prop} (hl : l.length ≤ 1000000) (hx : l[i]? = some x) (hf : Fit x) (hi : Inv26 B F0 mb acc es F) (hmb : B ≤ mb) (hn : acc.length ≤ 999999)
    (q : ∀ es' F' s', Inv26 B F0 mb (stepM acc x) es' F' → clean [4, 5, 12, 13, 14] [41] s' = st26 mb l (i + 1) es'.length (csOf es') → Q (.go s') F') : JudgF B F B26 (st26 mb l i es.length (csOf es)) Q := by
  have hil : i < l.length := (List.getElem?_eq_some_iff.1 hx).1
  have hlen : es.length = acc.length := by have := congrArg List.length hi.acc; simpa using this
  generalize hj : es.length = j
  generalize hcs : csOf es = cs
  cases hv : validB x with
  | false =>
    refine m26_no hl hx hf hi j cs hv fun s' h => q es F s' ?_ (by rw [hj, hcs]; exact h)
    unfold stepM; rw [if_neg (by simp [hv])]; exact hi
  | true =>
    have h10 := ok10 x hf
    rw [hv] at h10
    refine JudgF.pre' 26 (orc [(15, .val (bA true))]) 2 (stOf (runCode Try.prog (orc [(15, .val (bA true))]) (liveOf 26) 0 (Ytlekojbcaelpiaa.pre 2 B26) (st26 mb l i j cs))) [pB .lss 3 (.tmp 14) (.tmp 13) (.int .i64 ((i : Nat) : Int)) (.int .i64 ((l.length : Nat) : Int)) (bA true)] (by kernel_rfl) (by kernel_rfl) (allc (hLss _ _ _ _ _ _ (decide_eq_true (by omega))) allnil) ?_
    refine JudgF.seqE (by kernel_rfl) (JudgF.blockE (by kernel_rfl) ?_)
    refine JudgF.pre' 26 (orc [(16, .val (.rptr (iA (x.id) :: iA (x.ver) :: rowI x.args :: rowE x.events :: bA (x.cut) :: iA (x.en) :: rpsA (l.drop (i + 1)))))]) 1 (stOf (runCode Try.prog (orc [(16, .val (.rptr (iA (x.id) :: iA (x.ver) :: rowI x.args :: rowE x.events :: bA (x.cut) :: iA (x.en) :: rpsA (l.drop (i + 1)))))]) (liveOf 26) 0 (Ytlekojbcaelpiaa.pre 1 X26) (stOf (runCode Try.prog (orc [(15, .val (bA true))]) (liveOf 26) 0 (Ytlekojbcaelpiaa.pre 2 B26) (st26 mb l i j cs))))) ([cmdIndexAddr Try.prog 52 (rowR l) (iA ((i : Nat) : Int)) = some (.val (.rptr (iA (x.id) :: iA (x.ver) :: rowI x.args :: rowE x.events :: bA (x.cut) :: iA (x.en) :: rpsA (l.drop (i + 1))))), pB .lss 3 (.tmp 14) (.tmp 13) (.int .i64 ((i : Nat) : Int)) (.int .i64 ((l.length : Nat) : Int)) (bA true)]) (by kernel_rfl) (by kernel_rfl) (allc (el52.idxR hx) (allc (hLss _ _ _ _ _ _ (decide_eq_true (by omega))) allnil)) ?_
    refine JudgF.clean (L := [4, 5, 7, 12, 13, 14]) (N := [7, 41]) (t := st26b mb l i j cs x) (by kernel_rfl) ?_
    show JudgF B F (sY X26) _ _
    refine m26_look hl hx hf hi j cs hv fun b hb => ?_
    cases b with
    | true =>
      have hmem : x.id ∈ acc.map (·.id) := of_decide_eq_true hb.symm
      refine JudgF.run' 26 (orc []) (.go (stOf (runCode Try.prog (orc []) (liveOf 26) 0 (Q6m) (s26v mb l i j cs x true)))) [Ok Try.prog 10 [.agg [iA (x.id), iA (x.ver), rowI x.args, rowE x.events, bA (x.cut), iA (x.en)]] (plainR (bA true))] (by kernel_rfl) (by kernel_rfl) (allc (h10) allnil) ?_
      show JudgF B F R10m _ _
      refine JudgF.run' 26 (orc [(42, .val (iA ((i + 1 : Nat) : Int)))]) (.go (stOf (runCode Try.prog (orc [(42, .val (iA ((i + 1 : Nat) : Int)))]) (liveOf 26) 0 (R10m) ((stOf (runCode Try.prog (orc []) (liveOf 26) 0 (Q6m) (s26v mb l i j cs x true))))))) [pB .add 3 (.tmp 14) (.const (.int .i64 1)) (.int .i64 ((i : Nat) : Int)) (.int .i64 (1)) (iA ((i + 1 : Nat) : Int)), Ok Try.prog 10 [.agg [iA (x.id), iA (x.ver), rowI x.args, rowE x.events, bA (x.cut), iA (x.en)]] (plainR (bA true))] (by kernel_rfl) (by kernel_rfl) (allc (hAdd _ _ _ _ _ _ (by simp) ⟨by omega, by omega⟩) (allc (h10) allnil)) ?_
      refine q es F _ ?_ (by rw [hj, hcs]; kernel_rfl)
      unfold stepM; rw [if_neg (fun h => h.2 hmem)]; exact hi
    | false =>
      have hmem : x.id ∉ acc.map (·.id) := of_decide_eq_false hb.symm
      have hstep : stepM acc x = acc ++ [x] := by unfold stepM; rw [if_pos ⟨hv, hmem⟩]
      rw [hstep] at q
      refine JudgF.condT (by kernel_rfl) (by kernel_rfl) ?_
      show JudgF B F Y26 _ _
      refine JudgF.clean (L := [4, 5, 7, 12, 13, 14]) (N := [7, 41]) (t := st26b mb l i j cs x) (by kernel_rfl) ?_
      refine JudgF.seqE (by kernel_rfl) (m26_upd hf hi hmb (by omega) j cs fun o' ho' => ?_)
      show JudgF B _ (sY Y26) _ _
      refine JudgF.clean (L := [4, 5, 7, 12, 13, 14]) (N := [7, 41]) (t := st26c mb l i j cs x) (by kernel_rfl) ?_
      refine JudgF.seqE (by kernel_rfl) ?_
      refine JudgF.run' 26 (orcC [(32, ownI x.args), (35, ownE x.events)] []) (.go (stOf (runCode Try.prog (orcC [(32, ownI x.args), (35, ownE x.events)] []) (liveOf 26) 0 (R8m) (st26c mb l i j cs x)))) [Ok Try.prog 49 [rowE x.events] (ownE x.events), Ok Try.prog 48 [rowI x.args] (ownI x.args)] (by kernel_rfl) (by kernel_rfl) (allc (ok49 x.events (by have := hf.le; omega)) (allc (ok48 x.args hf.la) allnil)) ?_
      show JudgF B _ R9m _ _
      refine JudgF.clean (L := [4, 5, 7, 12, 13, 14]) (N := [7, 32, 35, 41]) (t := st26d mb l i j cs x) (by kernel_rfl) ?_
      refine m26_frz (acc := acc) (es := es) (x := x) (fun k o h => ⟨(hi.sub k o h).1, by show (if _ then _ else _) = _; rw [if_neg (hi.sub k o h).1]; exact (hi.sub k o h).2⟩) hi.acc (by rw [Fx_upd]; exact hi.els) j cs (fun F' e he hi' => ?_)
        ⟨o', by show (if _ then _ else _) = _; rw [if_pos rfl], fun w hw => by have := ho' w hw; rw [List.map_append]; simpa using this⟩
      obtain ⟨er, A2, k2, A3, k3⟩ := e
      have he' : x = er := he.symm
      subst he'
      refine JudgF.run' 26 (orc [(41, .grow 41 30 6 (j) (cs) (1) ([iA (x.id), iA (x.ver), .sc (.slice A2 x.args.length k2), .sc (.slice A3 x.events.length k3), bA (x.cut), iA (x.en)]))]) (.go (stOf (runCode Try.prog (orc [(41, .grow 41 30 6 (j) (cs) (1) ([iA (x.id), iA (x.ver), .sc (.slice A2 x.args.length k2), .sc (.slice A3 x.events.length k3), bA (x.cut), iA (x.en)]))]) (liveOf 26) 0 (R9m) (st26e mb l i j cs x A2 k2 A3 k3)))) [cmdAppend Try.prog 52 52 (.row (some (41, 30)) 6 (j) (cs)) (.row (some (40, 30)) 6 (1) ([iA (x.id), iA (x.ver), .sc (.slice A2 x.args.length k2), .sc (.slice A3 x.events.length k3), bA (x.cut), iA (x.en)])) = some (.grow 41 30 6 (j) (cs) (1) ([iA (x.id), iA (x.ver), .sc (.slice A2 x.args.length k2), .sc (.slice A3 x.events.length k3), bA (x.cut), iA (x.en)])), j * 6 = j * 6] (by kernel_rfl) (by kernel_rfl) (allc (el52.grow (rowOf_row _ _ _ _) (fits_of (by omega) (by omega))) (allc (rfl) allnil)) ?_
      show JudgF B F' R10m _ _
      refine JudgF.run' 26 (orc [(42, .val (iA ((i + 1 : Nat) : Int)))]) (.go (stOf (runCode Try.prog (orc [(42, .val (iA ((i + 1 : Nat) : Int)))]) (liveOf 26) 0 (R10m) ((stOf (runCode Try.prog (orc [(41, .grow 41 30 6 (j) (cs) (1) ([iA (x.id), iA (x.ver), .sc (.slice A2 x.args.length k2), .sc (.slice A3 x.events.length k3), bA (x.cut), iA (x.en)]))]) (liveOf 26) 0 (R9m) (st26e mb l i j cs x A2 k2 A3 k3))))))) [pB .add 3 (.tmp 14) (.const (.int .i64 1)) (.int .i64 ((i : Nat) : Int)) (.int .i64 (1)) (iA ((i + 1 : Nat) : Int)), cmdAppend Try.prog 52 52 (.row (some (41, 30)) 6 (j) (cs)) (.row (some (40, 30)) 6 (1) ([iA (x.id), iA (x.ver), .sc (.slice A2 x.args.length k2), .sc (.slice A3 x.events.length k3), bA (x.cut), iA (x.en)])) = some (.grow 41 30 6 (j) (cs) (1) ([iA (x.id), iA (x.ver), .sc (.slice A2 x.args.length k2), .sc (.slice A3 x.events.length k3), bA (x.cut), iA (x.en)])), j * 6 = j * 6] (by kernel_rfl) (by kernel_rfl) (allc (hAdd _ _ _ _ _ _ (by simp) ⟨by omega, by omega⟩) (allc (el52.grow (rowOf_row _ _ _ _) (fits_of (by omega) (by omega))) (allc (rfl) allnil))) ?_
      refine q _ F' _ hi' ?_
      rw [List.length_append, csOf_snoc, hcs, hj]
      kernel_rfl
end
end Go.Proofs.Ytlekojbcaelpiaa

/- A call looked at by hand; the sort's world. -/
namespace Go.Proofs.Ytlekojbcaelpiaa
open Go.RowKit Go.Sort

section
variable {P : Program} {ops : Array Oper} {Q : Exit → Act → World → Prop}
theorem wpOps_call {i g : Nat} {rest : List Nat} {o : Oper} {a : Act} {w : World} {cs : Array Value} {R : Ending → World → Prop} (ho : ops[i]? = some o) (hg : o.guard = none) (h : (execOp a.eval o).run P w = .ok (.enter g cs) w) (hc : Calls P g cs w R)
    (hk : ∀ e w', R e w' → ∃ c, e = .returned c ∧ wpOps P ops Q rest (a.put o.dst c) w') : wpOps P ops Q (i :: rest) a w := by
  rw [wpOps_cons]; unfold wpOp; rw [ho]
  have : Region.wanted o (yielded ops a.tmps) = true := by unfold Region.wanted; rw [hg]
  simp only [this, if_true]
  left
  unfold Oper.wp
  rw [h, Oper.upon_enter]
  refine hc.mono ?_
  intro e w' hR
  obtain ⟨c, rfl, hk⟩ := hk e w' hR
  exact hk
theorem exec_call {o : Oper} {a : Act} {w : World} {c : Call} {x : Operand} {g : Nat} {cb : Array Value} {args : Array Value} (ho : o.op = .call c) (hcal : c.callee = .value x) (hx : a.eval x = .func (.func g) #[] cb) (hargs : c.args.map a.eval = args) (he : Enters P g) : (execOp a.eval o).run P w = .ok (.enter g (args ++ cb)) w := by
  have := run_callFunc (w := w) he (args ++ cb)
  simp only [execOp, ho, resolve, hcal, hx, Deferred.ofValue, Sem.run_bind, Sem.run_pure, Result.andThen_ok, invoke, hargs]
  simpa using this
end
/-- a call that leaves the older memory as it is -/
theorem Rel.called {γ : Gh} {w0 w w' : World} {s : St} {a : Act} (h : Rel γ w0 s a w) (hb : Below w.heap.size w w') : Rel γ w0 s a w' :=
  h.grow_world (γ := γ) γ.pr hb (fun _ _ hp => hp) (fun _ _ hp => .inl hp)
theorem JudgF.nilSlot {B : Nat} {F : Frz} (t d e size : Nat) {c : Code} {s : St} {Q : Out → Frz → Prop} (ht : look s.slots t = some (.sc (.slice none 0 0))) (hd : s.absent d = true)
    (k : JudgF B F c { s with slots := (t, .row (some (d, e)) size 0 []) :: s.slots, lens := (d, 0) :: s.lens } Q) : JudgF B F c s Q := JudgF.ghost fun γ w0 a w hr hb hF => by
  obtain ⟨γ', hg, hr'⟩ := hr.nilName hd
  have hv : a.tmps.getD t undef = .slice none 0 0 := hr.slot t _ ht
  have hr2 : Rel γ' w0 { s with slots := (t, .row (some (d, e)) size 0 []) :: s.slots, lens := (d, 0) :: s.lens } a w := by
    refine ⟨hr'.size, hr'.defers, hr'.below, hr'.base, fun t' x hx => ?_, hr'.obj, hr'.len, hr'.inj, hr'.blt, hr'.plt, hr'.frm⟩
    simp only [look_cons] at hx
    split at hx
    · rename_i e; subst e; cases hx
      rw [hv]
      exact AVR.of_AVR1 (by simp) (nil_row (by simp [look_cons]))
    · exact hr'.slot t' x hx
  exact ⟨γ', _, GB.of hg, hr2, by rw [hg.fr, hF]; exact k⟩
theorem flat_list (es : List Elm) : (flatK cellsE 6 es.toArray).toList = es.flatMap cellsE := by
  have hlen : ∀ es : List Elm, (es.flatMap cellsE).length = es.length * 6 := fun es => by
    induction es with
    | nil => rfl
    | cons e es ih => rw [List.flatMap_cons, List.length_append, ih]; simp [cellsE]; omega
  have hget : ∀ (es : List Elm) (t : Nat), t < es.length * 6 → (es.flatMap cellsE)[t]? = (cellsE es[t / 6]!)[t % 6]? := fun es => by
    induction es with
    | nil => intro t h; simp at h
    | cons e es ih =>
      intro t h
      rw [List.flatMap_cons]
      by_cases h6 : t < 6
      · rw [List.getElem?_append_left (by simpa [cellsE] using h6)]
        have e1 : t / 6 = 0 := by omega
        have e2 : t % 6 = t := by omega
        rw [e1, e2]; rfl
      · rw [List.getElem?_append_right (by simp [cellsE]; omega), ih (t - (cellsE e).length) (by simp [cellsE] at h ⊢; omega)]
        have e0 : (cellsE e).length = 6 := rfl
        have e1 : (t - 6) / 6 + 1 = t / 6 := by omega
        have e2 : (t - 6) % 6 = t % 6 := by omega
        rw [e0, e2, ← e1]; rfl
  refine List.ext_getElem? fun t => ?_
  by_cases h : t < es.length * 6
  · rw [hget es t h]
    have h1 := get_flatK cellsE 6 es.toArray t (by simpa using h)
    have h2 : t < (flatK cellsE 6 es.toArray).size := by simpa using h
    rw [getElem!_pos _ t h2] at h1
    rw [Array.getElem?_toList, Array.getElem?_eq_getElem h2, h1]
    have h3 : t % 6 < (cellsE es[t / 6]!).length := by show t % 6 < 6; omega
    rw [List.getElem?_eq_getElem h3]
    have h4 : (es.toArray)[t / 6]! = es[t / 6]! := by simp
    rw [h4, getElem!_pos (cellsE es[t / 6]!) (t % 6) h3]
  · rw [List.getElem?_eq_none (by simp; omega), List.getElem?_eq_none (by rw [hlen]; omega)]
/-- the world behind the sort -/
theorem sortW {w w' : World} {g cap n : Nat} {cur : Array Value} {d d' : List Elm} {m : Nat} {os : Array Obj} (hg : w.heap[g]? = some (.cells cur 30 (0, 0))) (hn : d.length = n) (hc : n ≤ cap) (hs : cur.size = cap * 6) (ht : cur.toList.take (n * 6) = d.flatMap cellsE) (hd : d'.length = n)
    (hw : w' = sortWorldK cellsE 6 w g 0 m d'.toArray os) : w'.os = w.os ∧ w'.tape = w.tape ∧ w'.output = w.output ∧ w.heap.size ≤ w'.heap.size ∧ (∀ k, k < w.heap.size → k ≠ g → w'.heap[k]? = w.heap[k]?) ∧
      ∃ cur' : Array Value, w'.heap[g]? = some (.cells cur' 30 (0, 0)) ∧ cur'.size = cur.size ∧ cur'.toList.take (n * 6) = d'.flatMap cellsE := by
  have hlt : g < w.heap.size := (Array.getElem?_eq_some_iff.1 hg).1
  subst hw
  have hsz : (putRowK cellsE 6 (Sort.ahead w m) g 0 d'.toArray).heap.size = w.heap.size := by rw [size_putRowK]; rfl
  refine ⟨rfl, rfl, rfl, by unfold sortWorldK; rw [size_grow, hsz]; omega, fun k hk hne => ?_, putCells id 0 (flatK cellsE 6 d'.toArray) cur, ?_, by simp [putCells], ?_⟩
  · unfold sortWorldK
    rw [heap_grow_old _ _ (by rw [hsz]; exact hk)]
    simp [putRowK, putRow, mapBlock, Sort.ahead, Array.getElem?_modify, Ne.symm hne]
  · unfold sortWorldK
    rw [heap_grow_old _ _ (by rw [hsz]; exact hlt)]
    simp [putRowK, putRow, mapBlock, Sort.ahead, Array.getElem?_modify, hg, onCells]
  · rw [← flat_list d']
    have hle : n * 6 ≤ cap * 6 := Nat.mul_le_mul_right _ hc
    refine List.ext_getElem? fun t => ?_
    by_cases h : t < n * 6
    · have h1 : t < cur.size := by rw [hs]; omega
      have h2 : t < (flatK cellsE 6 d'.toArray).size := by simp [hd]; omega
      rw [List.getElem?_take, if_pos h, Array.getElem?_toList, Array.getElem?_toList]
      simp [putCells, Array.getElem?_mapIdx, h1, hd, h, h2]
    · rw [List.getElem?_eq_none (by simp [putCells]; omega), List.getElem?_eq_none (by simp [hd]; omega)]
theorem holdsE {w : World} {g cap n : Nat} {cur : Array Value} {d : List Elm} (hg : w.heap[g]? = some (.cells cur 30 (0, 0))) (hn : d.length = n) (hc : n ≤ cap) (hs : cur.size = cap * 6) (ht : cur.toList.take (n * 6) = d.flatMap cellsE) : HoldsK cellsE 6 w g 0 d.toArray := by
  intro j hj
  have hj' : j < n * 6 := by rw [← hn]; simpa using hj
  have hle : n * 6 ≤ cap * 6 := Nat.mul_le_mul_right _ hc
  have h1 : j < cur.size := by rw [hs]; omega
  refine ⟨?_, ?_⟩
  · have e : cur[j]? = (flatK cellsE 6 d.toArray).toList[j]? := by
      rw [flat_list, ← ht, List.getElem?_take, if_pos hj', Array.getElem?_toList]
    rw [Array.getElem?_toList, Array.getElem?_eq_getElem hj] at e
    have e2 := getElem!_pos (flatK cellsE 6 d.toArray) j hj
    simp only [World.cell?, hg, Nat.zero_add, id]
    rw [e2]
    simpa using e
  · simp [World.frozen?, hg]
end Go.Proofs.Ytlekojbcaelpiaa
