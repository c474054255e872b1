/-
  No cell of these rows narrows 'for every input' (looked for: loops, veiled, ifaces, maps, wideKeys, modest, calm, conditions, laid).
  DERIVED. THE GIVEN ROWS OF THIS SEAT. 11 by the template 'for every input the law returns true; each argument reads behind the call as it read before'; 0 by the template 'total and deterministic' (their statements: YtkjakmbmnbjpbaaTotals.lean).
  GIVEN WITH THE SEED: the statements are not yours to turn. If you find one false, say at which input.
  Laid BY PROGRAM, IN A SANDBOX (cutbox-rows.mjs): the forced cells as the released guide's own fill.sh prints them over the translation bb2eee143ec41d0e… (all of the seat's roots in one cut). By AI agents, Wed Nov 11 2026. No macro, syntax, notation, axiom, sorry.
-/
import Derived.Test.YtkjakmbmnbjpbaaChecked
import GoSem.Claim
import GoSem.ClaimJoined
import GoSem.ClaimMapViews
import Derived.JoinedTies
import Derived.KernelRfl
namespace Go.Proofs.Ytkjakmbmnbjpbaa
/- THE CELL 'sum', in the pinned program and in every row, IS THE sha256 OF THE DUMP (.gsa) THAT YtkjakmbmnbjpbaaProg.lean LOADS. Nothing in Lean hashes anything: it is a label: what it is worth is what the hold of that sum in a sandbox is worth. -/
noncomputable def Try.pinned : Pinned := { name := "ytkjakmbmnbjpbaa", sum := "bb2eee143ec41d0e8bb92419e5b0cb81d34121d272bb269b0c5bf3bc9bfdf7ea", checked := Try.checked }
namespace Rows
def none {H : Type} : Left H := { results := [], args := [] }

/-- 'laws.FnExactBefore': WHATEVER THE INPUT: true; the input reads as it did. -/
def fnExactBeforeSpec : ChangeSpec := { name := "fnExactBefore", fn := fun _ => fun
  | [d1, d2] => { results := [.lit (.bool true)], args := [d1, d2] }
  | _ => none }
def fnExactBeforeRow : OpenClaim := { program := "ytkjakmbmnbjpbaa", sum := "bb2eee143ec41d0e8bb92419e5b0cb81d34121d272bb269b0c5bf3bc9bfdf7ea", func := "loop.example/g00490/laws.FnExactBefore", spec := "fnExactBefore", apart := false }
def FnExactBeforeSaid : Prop := fnExactBeforeRow.holds Try.pinned (OpenSpec.ofChange fnExactBeforeSpec)

/-- ITS FALSE NEIGHBOUR: 'it returns false'. Refute it at one input. -/
def fnExactBeforeWrong : ChangeSpec := { name := "fnExactBefore", fn := fun _ => fun
  | [d1, d2] => { results := [.lit (.bool false)], args := [d1, d2] }
  | _ => none }
def FnExactBeforeWrongFalsely : Prop := fnExactBeforeRow.holds Try.pinned (OpenSpec.ofChange fnExactBeforeWrong)

/-- 'laws.FnExactHeapOk': WHATEVER THE INPUT: true; the input reads as it did. -/
def fnExactHeapOkSpec : ChangeSpec := { name := "fnExactHeapOk", fn := fun _ => fun
  | [d] => { results := [.lit (.bool true)], args := [d] }
  | _ => none }
def fnExactHeapOkRow : OpenClaim := { program := "ytkjakmbmnbjpbaa", sum := "bb2eee143ec41d0e8bb92419e5b0cb81d34121d272bb269b0c5bf3bc9bfdf7ea", func := "loop.example/g00490/laws.FnExactHeapOk", spec := "fnExactHeapOk", apart := false }
def FnExactHeapOkSaid : Prop := fnExactHeapOkRow.holds Try.pinned (OpenSpec.ofChange fnExactHeapOkSpec)

/-- ITS FALSE NEIGHBOUR: 'it returns false'. Refute it at one input. -/
def fnExactHeapOkWrong : ChangeSpec := { name := "fnExactHeapOk", fn := fun _ => fun
  | [d] => { results := [.lit (.bool false)], args := [d] }
  | _ => none }
def FnExactHeapOkWrongFalsely : Prop := fnExactHeapOkRow.holds Try.pinned (OpenSpec.ofChange fnExactHeapOkWrong)

/-- 'laws.FnExactHeapPut': WHATEVER THE INPUT: true; the input reads as it did. -/
def fnExactHeapPutSpec : ChangeSpec := { name := "fnExactHeapPut", fn := fun _ => fun
  | [d1, d2] => { results := [.lit (.bool true)], args := [d1, d2] }
  | _ => none }
def fnExactHeapPutRow : OpenClaim := { program := "ytkjakmbmnbjpbaa", sum := "bb2eee143ec41d0e8bb92419e5b0cb81d34121d272bb269b0c5bf3bc9bfdf7ea", func := "loop.example/g00490/laws.FnExactHeapPut", spec := "fnExactHeapPut", apart := false }
def FnExactHeapPutSaid : Prop := fnExactHeapPutRow.holds Try.pinned (OpenSpec.ofChange fnExactHeapPutSpec)

/-- ITS FALSE NEIGHBOUR: 'it returns false'. Refute it at one input. -/
def fnExactHeapPutWrong : ChangeSpec := { name := "fnExactHeapPut", fn := fun _ => fun
  | [d1, d2] => { results := [.lit (.bool false)], args := [d1, d2] }
  | _ => none }
def FnExactHeapPutWrongFalsely : Prop := fnExactHeapPutRow.holds Try.pinned (OpenSpec.ofChange fnExactHeapPutWrong)

/-- 'laws.FnExactSameConf': WHATEVER THE INPUT: true; the input reads as it did. -/
def fnExactSameConfSpec : ChangeSpec := { name := "fnExactSameConf", fn := fun _ => fun
  | [d1, d2] => { results := [.lit (.bool true)], args := [d1, d2] }
  | _ => none }
def fnExactSameConfRow : OpenClaim := { program := "ytkjakmbmnbjpbaa", sum := "bb2eee143ec41d0e8bb92419e5b0cb81d34121d272bb269b0c5bf3bc9bfdf7ea", func := "loop.example/g00490/laws.FnExactSameConf", spec := "fnExactSameConf", apart := false }
def FnExactSameConfSaid : Prop := fnExactSameConfRow.holds Try.pinned (OpenSpec.ofChange fnExactSameConfSpec)

/-- ITS FALSE NEIGHBOUR: 'it returns false'. Refute it at one input. -/
def fnExactSameConfWrong : ChangeSpec := { name := "fnExactSameConf", fn := fun _ => fun
  | [d1, d2] => { results := [.lit (.bool false)], args := [d1, d2] }
  | _ => none }
def FnExactSameConfWrongFalsely : Prop := fnExactSameConfRow.holds Try.pinned (OpenSpec.ofChange fnExactSameConfWrong)

/-- 'laws.FnExactHeapDrop': WHATEVER THE INPUT: true; the input reads as it did. -/
def fnExactHeapDropSpec : ChangeSpec := { name := "fnExactHeapDrop", fn := fun _ => fun
  | [d1, d2] => { results := [.lit (.bool true)], args := [d1, d2] }
  | _ => none }
def fnExactHeapDropRow : OpenClaim := { program := "ytkjakmbmnbjpbaa", sum := "bb2eee143ec41d0e8bb92419e5b0cb81d34121d272bb269b0c5bf3bc9bfdf7ea", func := "loop.example/g00490/laws.FnExactHeapDrop", spec := "fnExactHeapDrop", apart := false }
def FnExactHeapDropSaid : Prop := fnExactHeapDropRow.holds Try.pinned (OpenSpec.ofChange fnExactHeapDropSpec)

/-- ITS FALSE NEIGHBOUR: 'it returns false'. Refute it at one input. -/
def fnExactHeapDropWrong : ChangeSpec := { name := "fnExactHeapDrop", fn := fun _ => fun
  | [d1, d2] => { results := [.lit (.bool false)], args := [d1, d2] }
  | _ => none }
def FnExactHeapDropWrongFalsely : Prop := fnExactHeapDropRow.holds Try.pinned (OpenSpec.ofChange fnExactHeapDropWrong)

/-- 'laws.FnExactHeapTake': WHATEVER THE INPUT: true; the input reads as it did. -/
def fnExactHeapTakeSpec : ChangeSpec := { name := "fnExactHeapTake", fn := fun _ => fun
  | [d] => { results := [.lit (.bool true)], args := [d] }
  | _ => none }
def fnExactHeapTakeRow : OpenClaim := { program := "ytkjakmbmnbjpbaa", sum := "bb2eee143ec41d0e8bb92419e5b0cb81d34121d272bb269b0c5bf3bc9bfdf7ea", func := "loop.example/g00490/laws.FnExactHeapTake", spec := "fnExactHeapTake", apart := false }
def FnExactHeapTakeSaid : Prop := fnExactHeapTakeRow.holds Try.pinned (OpenSpec.ofChange fnExactHeapTakeSpec)

/-- ITS FALSE NEIGHBOUR: 'it returns false'. Refute it at one input. -/
def fnExactHeapTakeWrong : ChangeSpec := { name := "fnExactHeapTake", fn := fun _ => fun
  | [d] => { results := [.lit (.bool false)], args := [d] }
  | _ => none }
def FnExactHeapTakeWrongFalsely : Prop := fnExactHeapTakeRow.holds Try.pinned (OpenSpec.ofChange fnExactHeapTakeWrong)

/-- 'laws.FnHeaps': WHATEVER THE INPUT: true; the input reads as it did. -/
def fnHeapsSpec : ChangeSpec := { name := "fnHeaps", fn := fun _ => fun
  | [d] => { results := [.lit (.bool true)], args := [d] }
  | _ => none }
def fnHeapsRow : OpenClaim := { program := "ytkjakmbmnbjpbaa", sum := "bb2eee143ec41d0e8bb92419e5b0cb81d34121d272bb269b0c5bf3bc9bfdf7ea", func := "loop.example/g00490/laws.FnHeaps", spec := "fnHeaps", apart := false }
def FnHeapsSaid : Prop := fnHeapsRow.holds Try.pinned (OpenSpec.ofChange fnHeapsSpec)

/-- ITS FALSE NEIGHBOUR: 'it returns false'. Refute it at one input. -/
def fnHeapsWrong : ChangeSpec := { name := "fnHeaps", fn := fun _ => fun
  | [d] => { results := [.lit (.bool false)], args := [d] }
  | _ => none }
def FnHeapsWrongFalsely : Prop := fnHeapsRow.holds Try.pinned (OpenSpec.ofChange fnHeapsWrong)

/-- 'laws.FnExactConfOk': WHATEVER THE INPUT: true; the input reads as it did. -/
def fnExactConfOkSpec : ChangeSpec := { name := "fnExactConfOk", fn := fun _ => fun
  | [d] => { results := [.lit (.bool true)], args := [d] }
  | _ => none }
def fnExactConfOkRow : OpenClaim := { program := "ytkjakmbmnbjpbaa", sum := "bb2eee143ec41d0e8bb92419e5b0cb81d34121d272bb269b0c5bf3bc9bfdf7ea", func := "loop.example/g00490/laws.FnExactConfOk", spec := "fnExactConfOk", apart := false }
def FnExactConfOkSaid : Prop := fnExactConfOkRow.holds Try.pinned (OpenSpec.ofChange fnExactConfOkSpec)

/-- ITS FALSE NEIGHBOUR: 'it returns false'. Refute it at one input. -/
def fnExactConfOkWrong : ChangeSpec := { name := "fnExactConfOk", fn := fun _ => fun
  | [d] => { results := [.lit (.bool false)], args := [d] }
  | _ => none }
def FnExactConfOkWrongFalsely : Prop := fnExactConfOkRow.holds Try.pinned (OpenSpec.ofChange fnExactConfOkWrong)

/-- 'laws.FnExactSorted': WHATEVER THE INPUT: true; the input reads as it did. -/
def fnExactSortedSpec : ChangeSpec := { name := "fnExactSorted", fn := fun _ => fun
  | [d] => { results := [.lit (.bool true)], args := [d] }
  | _ => none }
def fnExactSortedRow : OpenClaim := { program := "ytkjakmbmnbjpbaa", sum := "bb2eee143ec41d0e8bb92419e5b0cb81d34121d272bb269b0c5bf3bc9bfdf7ea", func := "loop.example/g00490/laws.FnExactSorted", spec := "fnExactSorted", apart := false }
def FnExactSortedSaid : Prop := fnExactSortedRow.holds Try.pinned (OpenSpec.ofChange fnExactSortedSpec)

/-- ITS FALSE NEIGHBOUR: 'it returns false'. Refute it at one input. -/
def fnExactSortedWrong : ChangeSpec := { name := "fnExactSorted", fn := fun _ => fun
  | [d] => { results := [.lit (.bool false)], args := [d] }
  | _ => none }
def FnExactSortedWrongFalsely : Prop := fnExactSortedRow.holds Try.pinned (OpenSpec.ofChange fnExactSortedWrong)

/-- 'laws.FnExactNextDue': WHATEVER THE INPUT: true; the input reads as it did. -/
def fnExactNextDueSpec : ChangeSpec := { name := "fnExactNextDue", fn := fun _ => fun
  | [d1, d2, d3] => { results := [.lit (.bool true)], args := [d1, d2, d3] }
  | _ => none }
def fnExactNextDueRow : OpenClaim := { program := "ytkjakmbmnbjpbaa", sum := "bb2eee143ec41d0e8bb92419e5b0cb81d34121d272bb269b0c5bf3bc9bfdf7ea", func := "loop.example/g00490/laws.FnExactNextDue", spec := "fnExactNextDue", apart := false }
def FnExactNextDueSaid : Prop := fnExactNextDueRow.holds Try.pinned (OpenSpec.ofChange fnExactNextDueSpec)

/-- ITS FALSE NEIGHBOUR: 'it returns false'. Refute it at one input. -/
def fnExactNextDueWrong : ChangeSpec := { name := "fnExactNextDue", fn := fun _ => fun
  | [d1, d2, d3] => { results := [.lit (.bool false)], args := [d1, d2, d3] }
  | _ => none }
def FnExactNextDueWrongFalsely : Prop := fnExactNextDueRow.holds Try.pinned (OpenSpec.ofChange fnExactNextDueWrong)

/-- 'laws.FnHeapsBent': WHATEVER THE INPUT: true; the input reads as it did. -/
def fnHeapsBentSpec : ChangeSpec := { name := "fnHeapsBent", fn := fun _ => fun
  | [d] => { results := [.lit (.bool true)], args := [d] }
  | _ => none }
def fnHeapsBentRow : OpenClaim := { program := "ytkjakmbmnbjpbaa", sum := "bb2eee143ec41d0e8bb92419e5b0cb81d34121d272bb269b0c5bf3bc9bfdf7ea", func := "loop.example/g00490/laws.FnHeapsBent", spec := "fnHeapsBent", apart := false }
def FnHeapsBentSaid : Prop := fnHeapsBentRow.holds Try.pinned (OpenSpec.ofChange fnHeapsBentSpec)

/-- ITS FALSE NEIGHBOUR: 'it returns false'. Refute it at one input. -/
def fnHeapsBentWrong : ChangeSpec := { name := "fnHeapsBent", fn := fun _ => fun
  | [d] => { results := [.lit (.bool false)], args := [d] }
  | _ => none }
def FnHeapsBentWrongFalsely : Prop := fnHeapsBentRow.holds Try.pinned (OpenSpec.ofChange fnHeapsBentWrong)

/- THE SECOND FORM. 'bulk': how many values and letters a reading holds, each counted each time it is reached (what is shared counts as often as it is met; a slice's spare places count too). A statement '..UptoSaid' is the law's where the arguments, and the package variables that the reading takes, are together of bulk at most 1048576: NARROWER than '..Said'. Prove '..Said' where nothing that the law and all that it calls make is longer than what came in: it says more and counts as full. Else prove '..UptoSaid'. A law counts once. -/
mutual
def uptoBulk {H : Type} : DataW H → Nat
  | .lit (.string bytes) => bytes.length + 1
  | .lit _ => 1
  | .nil => 1
  | .ptr d => uptoBulk d + 1
  | .slice elems spare => uptoBulkAll elems + uptoBulkAll spare + 1
  | .agg parts => uptoBulkAll parts + 1
  | .iface _ d => uptoBulk d + 1
  | .map entries => uptoBulkEntries entries + 1
  | .held _ => 1
def uptoBulkAll {H : Type} : List (DataW H) → Nat
  | [] => 0
  | d :: r => uptoBulk d + uptoBulkAll r
def uptoBulkEntries {H : Type} : List (Lit × DataW H) → Nat
  | [] => 0
  | x :: r => uptoBulkEntry x + uptoBulkEntries r
def uptoBulkEntry {H : Type} : Lit × DataW H → Nat
  | (.string bytes, d) => bytes.length + uptoBulk d + 1
  | (_, d) => uptoBulk d + 1
 end
def uptoSmall : (H : Type) → List (DataW H) → Bool := fun _ ds => decide (uptoBulkAll ds ≤ 1048576)
def OpenSpec.upto (s : _root_.Go.ChangeSpec) : _root_.Go.OpenSpec := { _root_.Go.OpenSpec.ofChange s with cond := some uptoSmall }

/-- 'laws.FnExactBefore', WHERE WHAT IT READS IS OF BULK AT MOST 1048576: true; the input reads as it did. -/
def fnExactBeforeUptoRow : OpenClaim := { program := "ytkjakmbmnbjpbaa", sum := "bb2eee143ec41d0e8bb92419e5b0cb81d34121d272bb269b0c5bf3bc9bfdf7ea", func := "loop.example/g00490/laws.FnExactBefore", spec := "fnExactBefore", apart := false, narrowed := true }
def FnExactBeforeUptoSaid : Prop := fnExactBeforeUptoRow.holds Try.pinned (OpenSpec.upto fnExactBeforeSpec)

/-- 'laws.FnExactHeapOk', WHERE WHAT IT READS IS OF BULK AT MOST 1048576: true; the input reads as it did. -/
def fnExactHeapOkUptoRow : OpenClaim := { program := "ytkjakmbmnbjpbaa", sum := "bb2eee143ec41d0e8bb92419e5b0cb81d34121d272bb269b0c5bf3bc9bfdf7ea", func := "loop.example/g00490/laws.FnExactHeapOk", spec := "fnExactHeapOk", apart := false, narrowed := true }
def FnExactHeapOkUptoSaid : Prop := fnExactHeapOkUptoRow.holds Try.pinned (OpenSpec.upto fnExactHeapOkSpec)

/-- 'laws.FnExactHeapPut', WHERE WHAT IT READS IS OF BULK AT MOST 1048576: true; the input reads as it did. -/
def fnExactHeapPutUptoRow : OpenClaim := { program := "ytkjakmbmnbjpbaa", sum := "bb2eee143ec41d0e8bb92419e5b0cb81d34121d272bb269b0c5bf3bc9bfdf7ea", func := "loop.example/g00490/laws.FnExactHeapPut", spec := "fnExactHeapPut", apart := false, narrowed := true }
def FnExactHeapPutUptoSaid : Prop := fnExactHeapPutUptoRow.holds Try.pinned (OpenSpec.upto fnExactHeapPutSpec)

/-- 'laws.FnExactSameConf', WHERE WHAT IT READS IS OF BULK AT MOST 1048576: true; the input reads as it did. -/
def fnExactSameConfUptoRow : OpenClaim := { program := "ytkjakmbmnbjpbaa", sum := "bb2eee143ec41d0e8bb92419e5b0cb81d34121d272bb269b0c5bf3bc9bfdf7ea", func := "loop.example/g00490/laws.FnExactSameConf", spec := "fnExactSameConf", apart := false, narrowed := true }
def FnExactSameConfUptoSaid : Prop := fnExactSameConfUptoRow.holds Try.pinned (OpenSpec.upto fnExactSameConfSpec)

/-- 'laws.FnExactHeapDrop', WHERE WHAT IT READS IS OF BULK AT MOST 1048576: true; the input reads as it did. -/
def fnExactHeapDropUptoRow : OpenClaim := { program := "ytkjakmbmnbjpbaa", sum := "bb2eee143ec41d0e8bb92419e5b0cb81d34121d272bb269b0c5bf3bc9bfdf7ea", func := "loop.example/g00490/laws.FnExactHeapDrop", spec := "fnExactHeapDrop", apart := false, narrowed := true }
def FnExactHeapDropUptoSaid : Prop := fnExactHeapDropUptoRow.holds Try.pinned (OpenSpec.upto fnExactHeapDropSpec)

/-- 'laws.FnExactHeapTake', WHERE WHAT IT READS IS OF BULK AT MOST 1048576: true; the input reads as it did. -/
def fnExactHeapTakeUptoRow : OpenClaim := { program := "ytkjakmbmnbjpbaa", sum := "bb2eee143ec41d0e8bb92419e5b0cb81d34121d272bb269b0c5bf3bc9bfdf7ea", func := "loop.example/g00490/laws.FnExactHeapTake", spec := "fnExactHeapTake", apart := false, narrowed := true }
def FnExactHeapTakeUptoSaid : Prop := fnExactHeapTakeUptoRow.holds Try.pinned (OpenSpec.upto fnExactHeapTakeSpec)

/-- 'laws.FnHeaps', WHERE WHAT IT READS IS OF BULK AT MOST 1048576: true; the input reads as it did. -/
def fnHeapsUptoRow : OpenClaim := { program := "ytkjakmbmnbjpbaa", sum := "bb2eee143ec41d0e8bb92419e5b0cb81d34121d272bb269b0c5bf3bc9bfdf7ea", func := "loop.example/g00490/laws.FnHeaps", spec := "fnHeaps", apart := false, narrowed := true }
def FnHeapsUptoSaid : Prop := fnHeapsUptoRow.holds Try.pinned (OpenSpec.upto fnHeapsSpec)

/-- 'laws.FnExactConfOk', WHERE WHAT IT READS IS OF BULK AT MOST 1048576: true; the input reads as it did. -/
def fnExactConfOkUptoRow : OpenClaim := { program := "ytkjakmbmnbjpbaa", sum := "bb2eee143ec41d0e8bb92419e5b0cb81d34121d272bb269b0c5bf3bc9bfdf7ea", func := "loop.example/g00490/laws.FnExactConfOk", spec := "fnExactConfOk", apart := false, narrowed := true }
def FnExactConfOkUptoSaid : Prop := fnExactConfOkUptoRow.holds Try.pinned (OpenSpec.upto fnExactConfOkSpec)

/-- 'laws.FnExactSorted', WHERE WHAT IT READS IS OF BULK AT MOST 1048576: true; the input reads as it did. -/
def fnExactSortedUptoRow : OpenClaim := { program := "ytkjakmbmnbjpbaa", sum := "bb2eee143ec41d0e8bb92419e5b0cb81d34121d272bb269b0c5bf3bc9bfdf7ea", func := "loop.example/g00490/laws.FnExactSorted", spec := "fnExactSorted", apart := false, narrowed := true }
def FnExactSortedUptoSaid : Prop := fnExactSortedUptoRow.holds Try.pinned (OpenSpec.upto fnExactSortedSpec)

/-- 'laws.FnExactNextDue', WHERE WHAT IT READS IS OF BULK AT MOST 1048576: true; the input reads as it did. -/
def fnExactNextDueUptoRow : OpenClaim := { program := "ytkjakmbmnbjpbaa", sum := "bb2eee143ec41d0e8bb92419e5b0cb81d34121d272bb269b0c5bf3bc9bfdf7ea", func := "loop.example/g00490/laws.FnExactNextDue", spec := "fnExactNextDue", apart := false, narrowed := true }
def FnExactNextDueUptoSaid : Prop := fnExactNextDueUptoRow.holds Try.pinned (OpenSpec.upto fnExactNextDueSpec)

/-- 'laws.FnHeapsBent', WHERE WHAT IT READS IS OF BULK AT MOST 1048576: true; the input reads as it did. -/
def fnHeapsBentUptoRow : OpenClaim := { program := "ytkjakmbmnbjpbaa", sum := "bb2eee143ec41d0e8bb92419e5b0cb81d34121d272bb269b0c5bf3bc9bfdf7ea", func := "loop.example/g00490/laws.FnHeapsBent", spec := "fnHeapsBent", apart := false, narrowed := true }
def FnHeapsBentUptoSaid : Prop := fnHeapsBentUptoRow.holds Try.pinned (OpenSpec.upto fnHeapsBentSpec)

end Rows
end Go.Proofs.Ytkjakmbmnbjpbaa
