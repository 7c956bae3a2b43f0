/-
  No cell of these rows narrows 'for every input' (looked for: loops, veiled, ifaces, maps, wideKeys, modest, calm, conditions, laid).
  DERIVED. THE GIVEN ROWS OF THIS SEAT. 5 by the template 'for every input the law returns true; each argument reads behind the call as it read before'; 0 by the template 'total and deterministic' (their statements: YtlekojbcaelpiaaTotals.lean).
  GIVEN WITH THE SEED: the statements are not yours to turn. If you find one false, say at which input.
  Laid BY PROGRAM, IN A SANDBOX (cutbox-rows.mjs): the forced cells as the released guide's own fill.sh prints them over the translation e8eae92223f52755… (all of the seat's roots in one cut). By AI agents, Wed Nov 11 2026. No macro, syntax, notation, axiom, sorry.
-/
import Derived.Test.YtlekojbcaelpiaaChecked
import GoSem.Claim
import GoSem.ClaimJoined
import GoSem.ClaimMapViews
import Derived.JoinedTies
import Derived.KernelRfl
namespace Go.Proofs.Ytlekojbcaelpiaa
/- THE CELL 'sum', in the pinned program and in every row, IS THE sha256 OF THE DUMP (.gsa) THAT YtlekojbcaelpiaaProg.lean LOADS. Nothing in Lean hashes anything: it is a label: what it is worth is what the hold of that sum in a sandbox is worth. -/
noncomputable def Try.pinned : Pinned := { name := "ytlekojbcaelpiaa", sum := "e8eae92223f52755d7132df22b363c044ad8b0b2d4a3d3b0edda54b648293c0d", checked := Try.checked }
namespace Rows
def none {H : Type} : Left H := { results := [], args := [] }

/-- 'scorialaw38.ReportValid': WHATEVER THE INPUT: true; the input reads as it did. -/
def reportValidSpec : ChangeSpec := { name := "reportValid", fn := fun _ => fun
  | [d1, d2, d3, d4] => { results := [.lit (.bool true)], args := [d1, d2, d3, d4] }
  | _ => none }
def reportValidRow : OpenClaim := { program := "ytlekojbcaelpiaa", sum := "e8eae92223f52755d7132df22b363c044ad8b0b2d4a3d3b0edda54b648293c0d", func := "scoria/scorialaw38.ReportValid", spec := "reportValid", unfollowed := true, recurses := true, apart := false }
def ReportValidSaid : Prop := reportValidRow.holds Try.pinned (OpenSpec.ofChange reportValidSpec)

/-- ITS FALSE NEIGHBOUR: 'it returns false'. Refute it at one input. -/
def reportValidWrong : ChangeSpec := { name := "reportValid", fn := fun _ => fun
  | [d1, d2, d3, d4] => { results := [.lit (.bool false)], args := [d1, d2, d3, d4] }
  | _ => none }
def ReportValidWrongFalsely : Prop := reportValidRow.holds Try.pinned (OpenSpec.ofChange reportValidWrong)

/-- 'scorialaw38.ReportBytes': WHATEVER THE INPUT: true; the input reads as it did. -/
def reportBytesSpec : ChangeSpec := { name := "reportBytes", fn := fun _ => fun
  | [d1, d2, d3, d4] => { results := [.lit (.bool true)], args := [d1, d2, d3, d4] }
  | _ => none }
def reportBytesRow : OpenClaim := { program := "ytlekojbcaelpiaa", sum := "e8eae92223f52755d7132df22b363c044ad8b0b2d4a3d3b0edda54b648293c0d", func := "scoria/scorialaw38.ReportBytes", spec := "reportBytes", unfollowed := true, recurses := true, apart := false }
def ReportBytesSaid : Prop := reportBytesRow.holds Try.pinned (OpenSpec.ofChange reportBytesSpec)

/-- ITS FALSE NEIGHBOUR: 'it returns false'. Refute it at one input. -/
def reportBytesWrong : ChangeSpec := { name := "reportBytes", fn := fun _ => fun
  | [d1, d2, d3, d4] => { results := [.lit (.bool false)], args := [d1, d2, d3, d4] }
  | _ => none }
def ReportBytesWrongFalsely : Prop := reportBytesRow.holds Try.pinned (OpenSpec.ofChange reportBytesWrong)

/-- 'scorialaw38.ReportMerges': WHATEVER THE INPUT: true; the input reads as it did. -/
def reportMergesSpec : ChangeSpec := { name := "reportMerges", fn := fun _ => fun
  | [d1, d2, d3, d4] => { results := [.lit (.bool true)], args := [d1, d2, d3, d4] }
  | _ => none }
def reportMergesRow : OpenClaim := { program := "ytlekojbcaelpiaa", sum := "e8eae92223f52755d7132df22b363c044ad8b0b2d4a3d3b0edda54b648293c0d", func := "scoria/scorialaw38.ReportMerges", spec := "reportMerges", unfollowed := true, recurses := true, apart := false }
def ReportMergesSaid : Prop := reportMergesRow.holds Try.pinned (OpenSpec.ofChange reportMergesSpec)

/-- ITS FALSE NEIGHBOUR: 'it returns false'. Refute it at one input. -/
def reportMergesWrong : ChangeSpec := { name := "reportMerges", fn := fun _ => fun
  | [d1, d2, d3, d4] => { results := [.lit (.bool false)], args := [d1, d2, d3, d4] }
  | _ => none }
def ReportMergesWrongFalsely : Prop := reportMergesRow.holds Try.pinned (OpenSpec.ofChange reportMergesWrong)

/-- 'scorialaw38.ReportAgrees': WHATEVER THE INPUT: true; the input reads as it did. -/
def reportAgreesSpec : ChangeSpec := { name := "reportAgrees", fn := fun _ => fun
  | [d1, d2, d3, d4, d5] => { results := [.lit (.bool true)], args := [d1, d2, d3, d4, d5] }
  | _ => none }
def reportAgreesRow : OpenClaim := { program := "ytlekojbcaelpiaa", sum := "e8eae92223f52755d7132df22b363c044ad8b0b2d4a3d3b0edda54b648293c0d", func := "scoria/scorialaw38.ReportAgrees", spec := "reportAgrees", unfollowed := true, recurses := true, apart := false }
def ReportAgreesSaid : Prop := reportAgreesRow.holds Try.pinned (OpenSpec.ofChange reportAgreesSpec)

/-- ITS FALSE NEIGHBOUR: 'it returns false'. Refute it at one input. -/
def reportAgreesWrong : ChangeSpec := { name := "reportAgrees", fn := fun _ => fun
  | [d1, d2, d3, d4, d5] => { results := [.lit (.bool false)], args := [d1, d2, d3, d4, d5] }
  | _ => none }
def ReportAgreesWrongFalsely : Prop := reportAgreesRow.holds Try.pinned (OpenSpec.ofChange reportAgreesWrong)

/-- 'scorialaw38.ReportContradicts': WHATEVER THE INPUT: true; the input reads as it did. -/
def reportContradictsSpec : ChangeSpec := { name := "reportContradicts", fn := fun _ => fun
  | [d1, d2, d3, d4] => { results := [.lit (.bool true)], args := [d1, d2, d3, d4] }
  | _ => none }
def reportContradictsRow : OpenClaim := { program := "ytlekojbcaelpiaa", sum := "e8eae92223f52755d7132df22b363c044ad8b0b2d4a3d3b0edda54b648293c0d", func := "scoria/scorialaw38.ReportContradicts", spec := "reportContradicts", unfollowed := true, recurses := true, apart := false }
def ReportContradictsSaid : Prop := reportContradictsRow.holds Try.pinned (OpenSpec.ofChange reportContradictsSpec)

/-- ITS FALSE NEIGHBOUR: 'it returns false'. Refute it at one input. -/
def reportContradictsWrong : ChangeSpec := { name := "reportContradicts", fn := fun _ => fun
  | [d1, d2, d3, d4] => { results := [.lit (.bool false)], args := [d1, d2, d3, d4] }
  | _ => none }
def ReportContradictsWrongFalsely : Prop := reportContradictsRow.holds Try.pinned (OpenSpec.ofChange reportContradictsWrong)

/- THE SECOND FORM. 'bulk': how many values and letters a reading holds, each counted each time it is reached (what is shared counts as often as it is met; a slice's spare places count too). A statement '..UptoSaid' is the law's where the arguments, and the package variables that the reading takes, are together of bulk at most 1048576: NARROWER than '..Said'. Prove '..Said' where nothing that the law and all that it calls make is longer than what came in: it says more and counts as full. Else prove '..UptoSaid'. A law counts once. -/
mutual
def uptoBulk {H : Type} : DataW H → Nat
  | .lit (.string bytes) => bytes.length + 1
  | .lit _ => 1
  | .nil => 1
  | .ptr d => uptoBulk d + 1
  | .slice elems spare => uptoBulkAll elems + uptoBulkAll spare + 1
  | .agg parts => uptoBulkAll parts + 1
  | .iface _ d => uptoBulk d + 1
  | .map entries => uptoBulkEntries entries + 1
  | .held _ => 1
def uptoBulkAll {H : Type} : List (DataW H) → Nat
  | [] => 0
  | d :: r => uptoBulk d + uptoBulkAll r
def uptoBulkEntries {H : Type} : List (Lit × DataW H) → Nat
  | [] => 0
  | x :: r => uptoBulkEntry x + uptoBulkEntries r
def uptoBulkEntry {H : Type} : Lit × DataW H → Nat
  | (.string bytes, d) => bytes.length + uptoBulk d + 1
  | (_, d) => uptoBulk d + 1
 end
def uptoSmall : (H : Type) → List (DataW H) → Bool := fun _ ds => decide (uptoBulkAll ds ≤ 1048576)
def OpenSpec.upto (s : _root_.Go.ChangeSpec) : _root_.Go.OpenSpec := { _root_.Go.OpenSpec.ofChange s with cond := some uptoSmall }

/-- 'scorialaw38.ReportValid', WHERE WHAT IT READS IS OF BULK AT MOST 1048576: true; the input reads as it did. -/
def reportValidUptoRow : OpenClaim := { program := "ytlekojbcaelpiaa", sum := "e8eae92223f52755d7132df22b363c044ad8b0b2d4a3d3b0edda54b648293c0d", func := "scoria/scorialaw38.ReportValid", spec := "reportValid", unfollowed := true, recurses := true, apart := false, narrowed := true }
def ReportValidUptoSaid : Prop := reportValidUptoRow.holds Try.pinned (OpenSpec.upto reportValidSpec)

/-- 'scorialaw38.ReportBytes', WHERE WHAT IT READS IS OF BULK AT MOST 1048576: true; the input reads as it did. -/
def reportBytesUptoRow : OpenClaim := { program := "ytlekojbcaelpiaa", sum := "e8eae92223f52755d7132df22b363c044ad8b0b2d4a3d3b0edda54b648293c0d", func := "scoria/scorialaw38.ReportBytes", spec := "reportBytes", unfollowed := true, recurses := true, apart := false, narrowed := true }
def ReportBytesUptoSaid : Prop := reportBytesUptoRow.holds Try.pinned (OpenSpec.upto reportBytesSpec)

/-- 'scorialaw38.ReportMerges', WHERE WHAT IT READS IS OF BULK AT MOST 1048576: true; the input reads as it did. -/
def reportMergesUptoRow : OpenClaim := { program := "ytlekojbcaelpiaa", sum := "e8eae92223f52755d7132df22b363c044ad8b0b2d4a3d3b0edda54b648293c0d", func := "scoria/scorialaw38.ReportMerges", spec := "reportMerges", unfollowed := true, recurses := true, apart := false, narrowed := true }
def ReportMergesUptoSaid : Prop := reportMergesUptoRow.holds Try.pinned (OpenSpec.upto reportMergesSpec)

/-- 'scorialaw38.ReportAgrees', WHERE WHAT IT READS IS OF BULK AT MOST 1048576: true; the input reads as it did. -/
def reportAgreesUptoRow : OpenClaim := { program := "ytlekojbcaelpiaa", sum := "e8eae92223f52755d7132df22b363c044ad8b0b2d4a3d3b0edda54b648293c0d", func := "scoria/scorialaw38.ReportAgrees", spec := "reportAgrees", unfollowed := true, recurses := true, apart := false, narrowed := true }
def ReportAgreesUptoSaid : Prop := reportAgreesUptoRow.holds Try.pinned (OpenSpec.upto reportAgreesSpec)

/-- 'scorialaw38.ReportContradicts', WHERE WHAT IT READS IS OF BULK AT MOST 1048576: true; the input reads as it did. -/
def reportContradictsUptoRow : OpenClaim := { program := "ytlekojbcaelpiaa", sum := "e8eae92223f52755d7132df22b363c044ad8b0b2d4a3d3b0edda54b648293c0d", func := "scoria/scorialaw38.ReportContradicts", spec := "reportContradicts", unfollowed := true, recurses := true, apart := false, narrowed := true }
def ReportContradictsUptoSaid : Prop := reportContradictsUptoRow.holds Try.pinned (OpenSpec.upto reportContradictsSpec)

end Rows
end Go.Proofs.Ytlekojbcaelpiaa
