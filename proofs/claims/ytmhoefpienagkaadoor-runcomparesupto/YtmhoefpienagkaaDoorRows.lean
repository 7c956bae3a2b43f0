/-
  NARROWER THAN 'FOR EVERY INPUT', by the rows' own cells (each row's printed sentence says how): RunCompares: laid · RunOrder: laid · RunDigests: laid.
  DERIVED. THE GIVEN ROWS OF THIS SEAT. 3 by the template 'for every input the law returns true; each argument reads behind the call as it read before'; 0 by the template 'total and deterministic' (their statements: YtmhoefpienagkaaDoorTotals.lean).
  GIVEN WITH THE SEED: the statements are not yours to turn. If you find one false, say at which input.
  Laid BY PROGRAM, IN A SANDBOX (cutbox-rows.mjs): the forced cells as the released guide's own fill.sh prints them over the translation 09324ff607b66b6e… (all of the seat's roots in one cut). By AI agents, Wed Nov 11 2026. No macro, syntax, notation, axiom, sorry.
-/
import Derived.Test.YtmhoefpienagkaaDoorChecked
import GoSem.Claim
import GoSem.ClaimJoined
import GoSem.ClaimMapViews
import Derived.JoinedTies
import Derived.KernelRfl
namespace Go.Proofs.YtmhoefpienagkaaDoor
/- THE CELL 'sum', in the pinned program and in every row, IS THE sha256 OF THE DUMP (.gsa) THAT YtmhoefpienagkaaDoorProg.lean LOADS. Nothing in Lean hashes anything: it is a label: what it is worth is what the hold of that sum in a sandbox is worth. -/
noncomputable def Tryd.pinned : Pinned := { name := "ytmhoefpienagkaadoor", sum := "09324ff607b66b6ec924d771c562d1adde0320ad94791d6e42fe99c80c85276c", checked := Tryd.checked }
namespace Rows
def none {H : Type} : Left H := { results := [], args := [] }

/- WHAT THE LISTED PACKAGE-LEVEL VARIABLES READ AS WHEN THE CALL BEGINS. Each datum BY PROGRAM (the guide's laid-datum.mjs) off the statement by which the dump's own 'gosem.cut.vars' lays the variable. In a bare row this is a premise. The card (YtmhoefpienagkaaDoorCards.lean) ties it to the program's text. -/
def laid_scoria_word_operations {H : Type} : DataW H := .iface "func table" (.agg [.agg [.iface "func" (.lit (.string [115, 99, 111, 114, 105, 97, 47, 119, 111, 114, 100, 46, 111, 112, 101, 114, 97, 116, 105, 111, 110, 115, 36, 49])), .lit (.bool false), .lit (.bool false)], .agg [.iface "func" (.lit (.string [115, 99, 111, 114, 105, 97, 47, 119, 111, 114, 100, 46, 111, 112, 101, 114, 97, 116, 105, 111, 110, 115, 36, 50])), .lit (.bool false), .lit (.bool false)], .agg [.iface "func" (.lit (.string [115, 99, 111, 114, 105, 97, 47, 119, 111, 114, 100, 46, 111, 112, 101, 114, 97, 116, 105, 111, 110, 115, 36, 51])), .lit (.bool false), .lit (.bool false)], .agg [.iface "func" (.lit (.string [115, 99, 111, 114, 105, 97, 47, 119, 111, 114, 100, 46, 111, 112, 101, 114, 97, 116, 105, 111, 110, 115, 36, 52])), .lit (.bool true), .lit (.bool false)], .agg [.iface "func" (.lit (.string [115, 99, 111, 114, 105, 97, 47, 119, 111, 114, 100, 46, 111, 112, 101, 114, 97, 116, 105, 111, 110, 115, 36, 53])), .lit (.bool true), .lit (.bool false)], .agg [.iface "func" (.lit (.string [115, 99, 111, 114, 105, 97, 47, 119, 111, 114, 100, 46, 111, 112, 101, 114, 97, 116, 105, 111, 110, 115, 36, 54])), .lit (.bool false), .lit (.bool false)], .agg [.iface "func" (.lit (.string [115, 99, 111, 114, 105, 97, 47, 119, 111, 114, 100, 46, 111, 112, 101, 114, 97, 116, 105, 111, 110, 115, 36, 55])), .lit (.bool false), .lit (.bool false)], .agg [.iface "func" (.lit (.string [115, 99, 111, 114, 105, 97, 47, 119, 111, 114, 100, 46, 111, 112, 101, 114, 97, 116, 105, 111, 110, 115, 36, 56])), .lit (.bool false), .lit (.bool false)], .agg [.iface "func" (.lit (.string [115, 99, 111, 114, 105, 97, 47, 119, 111, 114, 100, 46, 111, 112, 101, 114, 97, 116, 105, 111, 110, 115, 36, 57])), .lit (.bool false), .lit (.bool false)], .agg [.iface "func" (.lit (.string [115, 99, 111, 114, 105, 97, 47, 119, 111, 114, 100, 46, 111, 112, 101, 114, 97, 116, 105, 111, 110, 115, 36, 49, 48])), .lit (.bool false), .lit (.bool false)], .agg [.iface "func" (.lit (.string [115, 99, 111, 114, 105, 97, 47, 119, 111, 114, 100, 46, 111, 112, 101, 114, 97, 116, 105, 111, 110, 115, 36, 49, 49])), .lit (.bool false), .lit (.bool true)], .agg [.iface "func" (.lit (.string [115, 99, 111, 114, 105, 97, 47, 119, 111, 114, 100, 46, 111, 112, 101, 114, 97, 116, 105, 111, 110, 115, 36, 49, 50])), .lit (.bool false), .lit (.bool true)], .agg [.iface "func" (.lit (.string [115, 99, 111, 114, 105, 97, 47, 119, 111, 114, 100, 46, 111, 112, 101, 114, 97, 116, 105, 111, 110, 115, 36, 49, 51])), .lit (.bool false), .lit (.bool true)], .agg [.iface "func" (.lit (.string [115, 99, 111, 114, 105, 97, 47, 119, 111, 114, 100, 46, 111, 112, 101, 114, 97, 116, 105, 111, 110, 115, 36, 49, 52])), .lit (.bool false), .lit (.bool true)]])
def laid_scoria_vm_instructions {H : Type} : DataW H := .iface "func table" (.agg [.iface "func" (.lit (.string [40, 42, 115, 99, 111, 114, 105, 97, 47, 118, 109, 46, 109, 97, 99, 104, 105, 110, 101, 41, 46, 105, 112, 117, 115, 104])), .iface "func" (.lit (.string [40, 42, 115, 99, 111, 114, 105, 97, 47, 118, 109, 46, 109, 97, 99, 104, 105, 110, 101, 41, 46, 105, 108, 111, 97, 100])), .iface "func" (.lit (.string [40, 42, 115, 99, 111, 114, 105, 97, 47, 118, 109, 46, 109, 97, 99, 104, 105, 110, 101, 41, 46, 105, 115, 116, 111, 114, 101])), .iface "func" (.lit (.string [40, 42, 115, 99, 111, 114, 105, 97, 47, 118, 109, 46, 109, 97, 99, 104, 105, 110, 101, 41, 46, 105, 101, 108, 101, 109])), .iface "func" (.lit (.string [40, 42, 115, 99, 111, 114, 105, 97, 47, 118, 109, 46, 109, 97, 99, 104, 105, 110, 101, 41, 46, 105, 112, 117, 116])), .iface "func" (.lit (.string [40, 42, 115, 99, 111, 114, 105, 97, 47, 118, 109, 46, 109, 97, 99, 104, 105, 110, 101, 41, 46, 105, 111, 112])), .iface "func" (.lit (.string [40, 42, 115, 99, 111, 114, 105, 97, 47, 118, 109, 46, 109, 97, 99, 104, 105, 110, 101, 41, 46, 105, 110, 111, 116])), .iface "func" (.lit (.string [40, 42, 115, 99, 111, 114, 105, 97, 47, 118, 109, 46, 109, 97, 99, 104, 105, 110, 101, 41, 46, 105, 106, 117, 109, 112])), .iface "func" (.lit (.string [40, 42, 115, 99, 111, 114, 105, 97, 47, 118, 109, 46, 109, 97, 99, 104, 105, 110, 101, 41, 46, 105, 102, 97, 108, 115, 101])), .iface "func" (.lit (.string [40, 42, 115, 99, 111, 114, 105, 97, 47, 118, 109, 46, 109, 97, 99, 104, 105, 110, 101, 41, 46, 105, 99, 97, 108, 108])), .iface "func" (.lit (.string [40, 42, 115, 99, 111, 114, 105, 97, 47, 118, 109, 46, 109, 97, 99, 104, 105, 110, 101, 41, 46, 105, 114, 101, 116, 117, 114, 110])), .iface "func" (.lit (.string [40, 42, 115, 99, 111, 114, 105, 97, 47, 118, 109, 46, 109, 97, 99, 104, 105, 110, 101, 41, 46, 105, 116, 104, 114, 111, 119])), .iface "func" (.lit (.string [40, 42, 115, 99, 111, 114, 105, 97, 47, 118, 109, 46, 109, 97, 99, 104, 105, 110, 101, 41, 46, 105, 116, 114, 121])), .iface "func" (.lit (.string [40, 42, 115, 99, 111, 114, 105, 97, 47, 118, 109, 46, 109, 97, 99, 104, 105, 110, 101, 41, 46, 105, 100, 111, 110, 101])), .iface "func" (.lit (.string [40, 42, 115, 99, 111, 114, 105, 97, 47, 118, 109, 46, 109, 97, 99, 104, 105, 110, 101, 41, 46, 105, 115, 101, 110, 100])), .iface "func" (.lit (.string [40, 42, 115, 99, 111, 114, 105, 97, 47, 118, 109, 46, 109, 97, 99, 104, 105, 110, 101, 41, 46, 105, 114, 101, 99, 118])), .iface "func" (.lit (.string [40, 42, 115, 99, 111, 114, 105, 97, 47, 118, 109, 46, 109, 97, 99, 104, 105, 110, 101, 41, 46, 105, 115, 112, 97, 119, 110])), .iface "func" (.lit (.string [40, 42, 115, 99, 111, 114, 105, 97, 47, 118, 109, 46, 109, 97, 99, 104, 105, 110, 101, 41, 46, 105, 111, 117, 116])), .iface "func" (.lit (.string [40, 42, 115, 99, 111, 114, 105, 97, 47, 118, 109, 46, 109, 97, 99, 104, 105, 110, 101, 41, 46, 105, 100, 114, 111, 112]))])
def laid_scoria_scoriaref02_constants {H : Type} : DataW H := .agg [.lit (.int .u32 1116352408), .lit (.int .u32 1899447441), .lit (.int .u32 3049323471), .lit (.int .u32 3921009573), .lit (.int .u32 961987163), .lit (.int .u32 1508970993), .lit (.int .u32 2453635748), .lit (.int .u32 2870763221), .lit (.int .u32 3624381080), .lit (.int .u32 310598401), .lit (.int .u32 607225278), .lit (.int .u32 1426881987), .lit (.int .u32 1925078388), .lit (.int .u32 2162078206), .lit (.int .u32 2614888103), .lit (.int .u32 3248222580), .lit (.int .u32 3835390401), .lit (.int .u32 4022224774), .lit (.int .u32 264347078), .lit (.int .u32 604807628), .lit (.int .u32 770255983), .lit (.int .u32 1249150122), .lit (.int .u32 1555081692), .lit (.int .u32 1996064986), .lit (.int .u32 2554220882), .lit (.int .u32 2821834349), .lit (.int .u32 2952996808), .lit (.int .u32 3210313671), .lit (.int .u32 3336571891), .lit (.int .u32 3584528711), .lit (.int .u32 113926993), .lit (.int .u32 338241895), .lit (.int .u32 666307205), .lit (.int .u32 773529912), .lit (.int .u32 1294757372), .lit (.int .u32 1396182291), .lit (.int .u32 1695183700), .lit (.int .u32 1986661051), .lit (.int .u32 2177026350), .lit (.int .u32 2456956037), .lit (.int .u32 2730485921), .lit (.int .u32 2820302411), .lit (.int .u32 3259730800), .lit (.int .u32 3345764771), .lit (.int .u32 3516065817), .lit (.int .u32 3600352804), .lit (.int .u32 4094571909), .lit (.int .u32 275423344), .lit (.int .u32 430227734), .lit (.int .u32 506948616), .lit (.int .u32 659060556), .lit (.int .u32 883997877), .lit (.int .u32 958139571), .lit (.int .u32 1322822218), .lit (.int .u32 1537002063), .lit (.int .u32 1747873779), .lit (.int .u32 1955562222), .lit (.int .u32 2024104815), .lit (.int .u32 2227730452), .lit (.int .u32 2361852424), .lit (.int .u32 2428436474), .lit (.int .u32 2756734187), .lit (.int .u32 3204031479), .lit (.int .u32 3329325298)]
def laid_scoria_hash_constants {H : Type} : DataW H := .agg [.lit (.int .u32 1116352408), .lit (.int .u32 1899447441), .lit (.int .u32 3049323471), .lit (.int .u32 3921009573), .lit (.int .u32 961987163), .lit (.int .u32 1508970993), .lit (.int .u32 2453635748), .lit (.int .u32 2870763221), .lit (.int .u32 3624381080), .lit (.int .u32 310598401), .lit (.int .u32 607225278), .lit (.int .u32 1426881987), .lit (.int .u32 1925078388), .lit (.int .u32 2162078206), .lit (.int .u32 2614888103), .lit (.int .u32 3248222580), .lit (.int .u32 3835390401), .lit (.int .u32 4022224774), .lit (.int .u32 264347078), .lit (.int .u32 604807628), .lit (.int .u32 770255983), .lit (.int .u32 1249150122), .lit (.int .u32 1555081692), .lit (.int .u32 1996064986), .lit (.int .u32 2554220882), .lit (.int .u32 2821834349), .lit (.int .u32 2952996808), .lit (.int .u32 3210313671), .lit (.int .u32 3336571891), .lit (.int .u32 3584528711), .lit (.int .u32 113926993), .lit (.int .u32 338241895), .lit (.int .u32 666307205), .lit (.int .u32 773529912), .lit (.int .u32 1294757372), .lit (.int .u32 1396182291), .lit (.int .u32 1695183700), .lit (.int .u32 1986661051), .lit (.int .u32 2177026350), .lit (.int .u32 2456956037), .lit (.int .u32 2730485921), .lit (.int .u32 2820302411), .lit (.int .u32 3259730800), .lit (.int .u32 3345764771), .lit (.int .u32 3516065817), .lit (.int .u32 3600352804), .lit (.int .u32 4094571909), .lit (.int .u32 275423344), .lit (.int .u32 430227734), .lit (.int .u32 506948616), .lit (.int .u32 659060556), .lit (.int .u32 883997877), .lit (.int .u32 958139571), .lit (.int .u32 1322822218), .lit (.int .u32 1537002063), .lit (.int .u32 1747873779), .lit (.int .u32 1955562222), .lit (.int .u32 2024104815), .lit (.int .u32 2227730452), .lit (.int .u32 2361852424), .lit (.int .u32 2428436474), .lit (.int .u32 2756734187), .lit (.int .u32 3204031479), .lit (.int .u32 3329325298)]

/-- 'scorialaw11.RunCompares': WHATEVER THE INPUT: true; the input reads as it did. -/
def runComparesSpec : ChangeSpec := { name := "runCompares", fn := fun _ => fun
  | [d1, d2, d3] => { results := [.lit (.bool true)], args := [d1, d2, d3] }
  | _ => none }
def runComparesRow : OpenClaim := { program := "ytmhoefpienagkaadoor", sum := "09324ff607b66b6ec924d771c562d1adde0320ad94791d6e42fe99c80c85276c", func := "scoria/scorialaw11.RunCompares", spec := "runCompares", unfollowed := true, recurses := true, named := ["scoria/word.operations", "scoria/vm.instructions"], apart := false, laid := [("scoria/word.operations", laid_scoria_word_operations), ("scoria/vm.instructions", laid_scoria_vm_instructions)] }
def RunComparesSaid : Prop := runComparesRow.holds Tryd.pinned (OpenSpec.ofChange runComparesSpec)

/-- ITS FALSE NEIGHBOUR: 'it returns false'. Refute it at one input. -/
def runComparesWrong : ChangeSpec := { name := "runCompares", fn := fun _ => fun
  | [d1, d2, d3] => { results := [.lit (.bool false)], args := [d1, d2, d3] }
  | _ => none }
def RunComparesWrongFalsely : Prop := runComparesRow.holds Tryd.pinned (OpenSpec.ofChange runComparesWrong)

/-- 'scorialaw11.RunOrder': WHATEVER THE INPUT: true; the input reads as it did. -/
def runOrderSpec : ChangeSpec := { name := "runOrder", fn := fun _ => fun
  | [d1, d2, d3] => { results := [.lit (.bool true)], args := [d1, d2, d3] }
  | _ => none }
def runOrderRow : OpenClaim := { program := "ytmhoefpienagkaadoor", sum := "09324ff607b66b6ec924d771c562d1adde0320ad94791d6e42fe99c80c85276c", func := "scoria/scorialaw11.RunOrder", spec := "runOrder", unfollowed := true, recurses := true, named := ["scoria/word.operations", "scoria/vm.instructions"], apart := false, laid := [("scoria/word.operations", laid_scoria_word_operations), ("scoria/vm.instructions", laid_scoria_vm_instructions)] }
def RunOrderSaid : Prop := runOrderRow.holds Tryd.pinned (OpenSpec.ofChange runOrderSpec)

/-- ITS FALSE NEIGHBOUR: 'it returns false'. Refute it at one input. -/
def runOrderWrong : ChangeSpec := { name := "runOrder", fn := fun _ => fun
  | [d1, d2, d3] => { results := [.lit (.bool false)], args := [d1, d2, d3] }
  | _ => none }
def RunOrderWrongFalsely : Prop := runOrderRow.holds Tryd.pinned (OpenSpec.ofChange runOrderWrong)

/-- 'scorialaw11.RunDigests': WHATEVER THE INPUT: true; the input reads as it did. -/
def runDigestsSpec : ChangeSpec := { name := "runDigests", fn := fun _ => fun
  | [d1, d2, d3, d4] => { results := [.lit (.bool true)], args := [d1, d2, d3, d4] }
  | _ => none }
def runDigestsRow : OpenClaim := { program := "ytmhoefpienagkaadoor", sum := "09324ff607b66b6ec924d771c562d1adde0320ad94791d6e42fe99c80c85276c", func := "scoria/scorialaw11.RunDigests", spec := "runDigests", unfollowed := true, recurses := true, named := ["scoria/hash.constants", "scoria/scoriaref02.constants", "scoria/word.operations", "scoria/vm.instructions"], apart := false, laid := [("scoria/scoriaref02.constants", laid_scoria_scoriaref02_constants), ("scoria/hash.constants", laid_scoria_hash_constants), ("scoria/word.operations", laid_scoria_word_operations), ("scoria/vm.instructions", laid_scoria_vm_instructions)] }
def RunDigestsSaid : Prop := runDigestsRow.holds Tryd.pinned (OpenSpec.ofChange runDigestsSpec)

/-- ITS FALSE NEIGHBOUR: 'it returns false'. Refute it at one input. -/
def runDigestsWrong : ChangeSpec := { name := "runDigests", fn := fun _ => fun
  | [d1, d2, d3, d4] => { results := [.lit (.bool false)], args := [d1, d2, d3, d4] }
  | _ => none }
def RunDigestsWrongFalsely : Prop := runDigestsRow.holds Tryd.pinned (OpenSpec.ofChange runDigestsWrong)

/- THE SECOND FORM. 'bulk': how many values and letters a reading holds, each counted each time it is reached (what is shared counts as often as it is met; a slice's spare places count too). A statement '..UptoSaid' is the law's where the arguments, and the package variables that the reading takes, are together of bulk at most 1048576: NARROWER than '..Said'. Prove '..Said' where nothing that the law and all that it calls make is longer than what came in: it says more and counts as full. Else prove '..UptoSaid'. A law counts once. -/
mutual
def uptoBulk {H : Type} : DataW H → Nat
  | .lit (.string bytes) => bytes.length + 1
  | .lit _ => 1
  | .nil => 1
  | .ptr d => uptoBulk d + 1
  | .slice elems spare => uptoBulkAll elems + uptoBulkAll spare + 1
  | .agg parts => uptoBulkAll parts + 1
  | .iface _ d => uptoBulk d + 1
  | .map entries => uptoBulkEntries entries + 1
  | .held _ => 1
def uptoBulkAll {H : Type} : List (DataW H) → Nat
  | [] => 0
  | d :: r => uptoBulk d + uptoBulkAll r
def uptoBulkEntries {H : Type} : List (Lit × DataW H) → Nat
  | [] => 0
  | x :: r => uptoBulkEntry x + uptoBulkEntries r
def uptoBulkEntry {H : Type} : Lit × DataW H → Nat
  | (.string bytes, d) => bytes.length + uptoBulk d + 1
  | (_, d) => uptoBulk d + 1
 end
def uptoSmall : (H : Type) → List (DataW H) → Bool := fun _ ds => decide (uptoBulkAll ds ≤ 1048576)
def OpenSpec.upto (s : _root_.Go.ChangeSpec) : _root_.Go.OpenSpec := { _root_.Go.OpenSpec.ofChange s with cond := some uptoSmall }

/-- 'scorialaw11.RunCompares', WHERE WHAT IT READS IS OF BULK AT MOST 1048576: true; the input reads as it did. -/
def runComparesUptoRow : OpenClaim := { program := "ytmhoefpienagkaadoor", sum := "09324ff607b66b6ec924d771c562d1adde0320ad94791d6e42fe99c80c85276c", func := "scoria/scorialaw11.RunCompares", spec := "runCompares", unfollowed := true, recurses := true, named := ["scoria/word.operations", "scoria/vm.instructions"], apart := false, laid := [("scoria/word.operations", laid_scoria_word_operations), ("scoria/vm.instructions", laid_scoria_vm_instructions)], narrowed := true }
def RunComparesUptoSaid : Prop := runComparesUptoRow.holds Tryd.pinned (OpenSpec.upto runComparesSpec)

/-- 'scorialaw11.RunOrder', WHERE WHAT IT READS IS OF BULK AT MOST 1048576: true; the input reads as it did. -/
def runOrderUptoRow : OpenClaim := { program := "ytmhoefpienagkaadoor", sum := "09324ff607b66b6ec924d771c562d1adde0320ad94791d6e42fe99c80c85276c", func := "scoria/scorialaw11.RunOrder", spec := "runOrder", unfollowed := true, recurses := true, named := ["scoria/word.operations", "scoria/vm.instructions"], apart := false, laid := [("scoria/word.operations", laid_scoria_word_operations), ("scoria/vm.instructions", laid_scoria_vm_instructions)], narrowed := true }
def RunOrderUptoSaid : Prop := runOrderUptoRow.holds Tryd.pinned (OpenSpec.upto runOrderSpec)

/-- 'scorialaw11.RunDigests', WHERE WHAT IT READS IS OF BULK AT MOST 1048576: true; the input reads as it did. -/
def runDigestsUptoRow : OpenClaim := { program := "ytmhoefpienagkaadoor", sum := "09324ff607b66b6ec924d771c562d1adde0320ad94791d6e42fe99c80c85276c", func := "scoria/scorialaw11.RunDigests", spec := "runDigests", unfollowed := true, recurses := true, named := ["scoria/hash.constants", "scoria/scoriaref02.constants", "scoria/word.operations", "scoria/vm.instructions"], apart := false, laid := [("scoria/scoriaref02.constants", laid_scoria_scoriaref02_constants), ("scoria/hash.constants", laid_scoria_hash_constants), ("scoria/word.operations", laid_scoria_word_operations), ("scoria/vm.instructions", laid_scoria_vm_instructions)], narrowed := true }
def RunDigestsUptoSaid : Prop := runDigestsUptoRow.holds Tryd.pinned (OpenSpec.upto runDigestsSpec)

end Rows
end Go.Proofs.YtmhoefpienagkaaDoor
