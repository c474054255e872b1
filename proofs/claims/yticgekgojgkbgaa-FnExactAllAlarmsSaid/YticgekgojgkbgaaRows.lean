/-
  No cell of these rows narrows 'for every input' (looked for: loops, veiled, ifaces, maps, wideKeys, modest, calm, conditions, laid).
  DERIVED. THE GIVEN ROWS OF THIS SEAT. 9 by the template 'for every input the law returns true; each argument reads behind the call as it read before'; 0 by the template 'total and deterministic' (their statements: YticgekgojgkbgaaTotals.lean).
  GIVEN WITH THE SEED: the statements are not yours to turn. If you find one false, say at which input.
  Laid BY PROGRAM, IN A SANDBOX (cutbox-rows.mjs): the forced cells as the released guide's own fill.sh prints them over the translation 0a5c9a15029f6e92… (all of the seat's roots in one cut). By AI agents, Wed Nov 11 2026. No macro, syntax, notation, axiom, sorry.
-/
import Derived.Test.YticgekgojgkbgaaChecked
import GoSem.Claim
import GoSem.ClaimJoined
import GoSem.ClaimMapViews
import Derived.JoinedTies
import Derived.KernelRfl
namespace Go.Proofs.Yticgekgojgkbgaa
/- THE CELL 'sum', in the pinned program and in every row, IS THE sha256 OF THE DUMP (.gsa) THAT YticgekgojgkbgaaProg.lean LOADS. Nothing in Lean hashes anything: it is a label: what it is worth is what the hold of that sum in a sandbox is worth. -/
noncomputable def Try.pinned : Pinned := { name := "yticgekgojgkbgaa", sum := "0a5c9a15029f6e92e9accd494bee5a7fa4b0dab3317ee3be10185fc01e22ca11", checked := Try.checked }
namespace Rows
def none {H : Type} : Left H := { results := [], args := [] }

/-- 'laws.FnExactHomeOf': WHATEVER THE INPUT: true; the input reads as it did. -/
def fnExactHomeOfSpec : ChangeSpec := { name := "fnExactHomeOf", fn := fun _ => fun
  | [d1, d2] => { results := [.lit (.bool true)], args := [d1, d2] }
  | _ => none }
def fnExactHomeOfRow : OpenClaim := { program := "yticgekgojgkbgaa", sum := "0a5c9a15029f6e92e9accd494bee5a7fa4b0dab3317ee3be10185fc01e22ca11", func := "loop.example/g00490/laws.FnExactHomeOf", spec := "fnExactHomeOf", inPlace := ["internal/abi.NoEscape", "internal/bytealg.MakeNoZero"], apart := false }
def FnExactHomeOfSaid : Prop := fnExactHomeOfRow.holds Try.pinned (OpenSpec.ofChange fnExactHomeOfSpec)

/-- ITS FALSE NEIGHBOUR: 'it returns false'. Refute it at one input. -/
def fnExactHomeOfWrong : ChangeSpec := { name := "fnExactHomeOf", fn := fun _ => fun
  | [d1, d2] => { results := [.lit (.bool false)], args := [d1, d2] }
  | _ => none }
def FnExactHomeOfWrongFalsely : Prop := fnExactHomeOfRow.holds Try.pinned (OpenSpec.ofChange fnExactHomeOfWrong)

/-- 'laws.FnExactHoldsPart': WHATEVER THE INPUT: true; the input reads as it did. -/
def fnExactHoldsPartSpec : ChangeSpec := { name := "fnExactHoldsPart", fn := fun _ => fun
  | [d1, d2] => { results := [.lit (.bool true)], args := [d1, d2] }
  | _ => none }
def fnExactHoldsPartRow : OpenClaim := { program := "yticgekgojgkbgaa", sum := "0a5c9a15029f6e92e9accd494bee5a7fa4b0dab3317ee3be10185fc01e22ca11", func := "loop.example/g00490/laws.FnExactHoldsPart", spec := "fnExactHoldsPart", inPlace := ["internal/abi.NoEscape", "internal/bytealg.MakeNoZero"], apart := false }
def FnExactHoldsPartSaid : Prop := fnExactHoldsPartRow.holds Try.pinned (OpenSpec.ofChange fnExactHoldsPartSpec)

/-- ITS FALSE NEIGHBOUR: 'it returns false'. Refute it at one input. -/
def fnExactHoldsPartWrong : ChangeSpec := { name := "fnExactHoldsPart", fn := fun _ => fun
  | [d1, d2] => { results := [.lit (.bool false)], args := [d1, d2] }
  | _ => none }
def FnExactHoldsPartWrongFalsely : Prop := fnExactHoldsPartRow.holds Try.pinned (OpenSpec.ofChange fnExactHoldsPartWrong)

/-- 'laws.FnExactPartOk': WHATEVER THE INPUT: true; the input reads as it did. -/
def fnExactPartOkSpec : ChangeSpec := { name := "fnExactPartOk", fn := fun _ => fun
  | [d1, d2, d3] => { results := [.lit (.bool true)], args := [d1, d2, d3] }
  | _ => none }
def fnExactPartOkRow : OpenClaim := { program := "yticgekgojgkbgaa", sum := "0a5c9a15029f6e92e9accd494bee5a7fa4b0dab3317ee3be10185fc01e22ca11", func := "loop.example/g00490/laws.FnExactPartOk", spec := "fnExactPartOk", inPlace := ["internal/abi.NoEscape", "internal/bytealg.MakeNoZero"], apart := false }
def FnExactPartOkSaid : Prop := fnExactPartOkRow.holds Try.pinned (OpenSpec.ofChange fnExactPartOkSpec)

/-- ITS FALSE NEIGHBOUR: 'it returns false'. Refute it at one input. -/
def fnExactPartOkWrong : ChangeSpec := { name := "fnExactPartOk", fn := fun _ => fun
  | [d1, d2, d3] => { results := [.lit (.bool false)], args := [d1, d2, d3] }
  | _ => none }
def FnExactPartOkWrongFalsely : Prop := fnExactPartOkRow.holds Try.pinned (OpenSpec.ofChange fnExactPartOkWrong)

/-- 'laws.FnExactStoreOk': WHATEVER THE INPUT: true; the input reads as it did. -/
def fnExactStoreOkSpec : ChangeSpec := { name := "fnExactStoreOk", fn := fun _ => fun
  | [d] => { results := [.lit (.bool true)], args := [d] }
  | _ => none }
def fnExactStoreOkRow : OpenClaim := { program := "yticgekgojgkbgaa", sum := "0a5c9a15029f6e92e9accd494bee5a7fa4b0dab3317ee3be10185fc01e22ca11", func := "loop.example/g00490/laws.FnExactStoreOk", spec := "fnExactStoreOk", inPlace := ["internal/abi.NoEscape", "internal/bytealg.MakeNoZero"], apart := false }
def FnExactStoreOkSaid : Prop := fnExactStoreOkRow.holds Try.pinned (OpenSpec.ofChange fnExactStoreOkSpec)

/-- ITS FALSE NEIGHBOUR: 'it returns false'. Refute it at one input. -/
def fnExactStoreOkWrong : ChangeSpec := { name := "fnExactStoreOk", fn := fun _ => fun
  | [d] => { results := [.lit (.bool false)], args := [d] }
  | _ => none }
def FnExactStoreOkWrongFalsely : Prop := fnExactStoreOkRow.holds Try.pinned (OpenSpec.ofChange fnExactStoreOkWrong)

/-- 'laws.FnExactFindIn': WHATEVER THE INPUT: true; the input reads as it did. -/
def fnExactFindInSpec : ChangeSpec := { name := "fnExactFindIn", fn := fun _ => fun
  | [d1, d2] => { results := [.lit (.bool true)], args := [d1, d2] }
  | _ => none }
def fnExactFindInRow : OpenClaim := { program := "yticgekgojgkbgaa", sum := "0a5c9a15029f6e92e9accd494bee5a7fa4b0dab3317ee3be10185fc01e22ca11", func := "loop.example/g00490/laws.FnExactFindIn", spec := "fnExactFindIn", inPlace := ["internal/abi.NoEscape", "internal/bytealg.MakeNoZero"], apart := false }
def FnExactFindInSaid : Prop := fnExactFindInRow.holds Try.pinned (OpenSpec.ofChange fnExactFindInSpec)

/-- ITS FALSE NEIGHBOUR: 'it returns false'. Refute it at one input. -/
def fnExactFindInWrong : ChangeSpec := { name := "fnExactFindIn", fn := fun _ => fun
  | [d1, d2] => { results := [.lit (.bool false)], args := [d1, d2] }
  | _ => none }
def FnExactFindInWrongFalsely : Prop := fnExactFindInRow.holds Try.pinned (OpenSpec.ofChange fnExactFindInWrong)

/-- 'laws.FnExactFindAlarm': WHATEVER THE INPUT: true; the input reads as it did. -/
def fnExactFindAlarmSpec : ChangeSpec := { name := "fnExactFindAlarm", fn := fun _ => fun
  | [d1, d2] => { results := [.lit (.bool true)], args := [d1, d2] }
  | _ => none }
def fnExactFindAlarmRow : OpenClaim := { program := "yticgekgojgkbgaa", sum := "0a5c9a15029f6e92e9accd494bee5a7fa4b0dab3317ee3be10185fc01e22ca11", func := "loop.example/g00490/laws.FnExactFindAlarm", spec := "fnExactFindAlarm", inPlace := ["internal/abi.NoEscape", "internal/bytealg.MakeNoZero"], apart := false }
def FnExactFindAlarmSaid : Prop := fnExactFindAlarmRow.holds Try.pinned (OpenSpec.ofChange fnExactFindAlarmSpec)

/-- ITS FALSE NEIGHBOUR: 'it returns false'. Refute it at one input. -/
def fnExactFindAlarmWrong : ChangeSpec := { name := "fnExactFindAlarm", fn := fun _ => fun
  | [d1, d2] => { results := [.lit (.bool false)], args := [d1, d2] }
  | _ => none }
def FnExactFindAlarmWrongFalsely : Prop := fnExactFindAlarmRow.holds Try.pinned (OpenSpec.ofChange fnExactFindAlarmWrong)

/-- 'laws.FnExactPutIn': WHATEVER THE INPUT: true; the input reads as it did. -/
def fnExactPutInSpec : ChangeSpec := { name := "fnExactPutIn", fn := fun _ => fun
  | [d1, d2] => { results := [.lit (.bool true)], args := [d1, d2] }
  | _ => none }
def fnExactPutInRow : OpenClaim := { program := "yticgekgojgkbgaa", sum := "0a5c9a15029f6e92e9accd494bee5a7fa4b0dab3317ee3be10185fc01e22ca11", func := "loop.example/g00490/laws.FnExactPutIn", spec := "fnExactPutIn", inPlace := ["internal/abi.NoEscape", "internal/bytealg.MakeNoZero"], apart := false }
def FnExactPutInSaid : Prop := fnExactPutInRow.holds Try.pinned (OpenSpec.ofChange fnExactPutInSpec)

/-- ITS FALSE NEIGHBOUR: 'it returns false'. Refute it at one input. -/
def fnExactPutInWrong : ChangeSpec := { name := "fnExactPutIn", fn := fun _ => fun
  | [d1, d2] => { results := [.lit (.bool false)], args := [d1, d2] }
  | _ => none }
def FnExactPutInWrongFalsely : Prop := fnExactPutInRow.holds Try.pinned (OpenSpec.ofChange fnExactPutInWrong)

/-- 'laws.FnExactPutAlarm': WHATEVER THE INPUT: true; the input reads as it did. -/
def fnExactPutAlarmSpec : ChangeSpec := { name := "fnExactPutAlarm", fn := fun _ => fun
  | [d1, d2] => { results := [.lit (.bool true)], args := [d1, d2] }
  | _ => none }
def fnExactPutAlarmRow : OpenClaim := { program := "yticgekgojgkbgaa", sum := "0a5c9a15029f6e92e9accd494bee5a7fa4b0dab3317ee3be10185fc01e22ca11", func := "loop.example/g00490/laws.FnExactPutAlarm", spec := "fnExactPutAlarm", inPlace := ["internal/abi.NoEscape", "internal/bytealg.MakeNoZero"], apart := false }
def FnExactPutAlarmSaid : Prop := fnExactPutAlarmRow.holds Try.pinned (OpenSpec.ofChange fnExactPutAlarmSpec)

/-- ITS FALSE NEIGHBOUR: 'it returns false'. Refute it at one input. -/
def fnExactPutAlarmWrong : ChangeSpec := { name := "fnExactPutAlarm", fn := fun _ => fun
  | [d1, d2] => { results := [.lit (.bool false)], args := [d1, d2] }
  | _ => none }
def FnExactPutAlarmWrongFalsely : Prop := fnExactPutAlarmRow.holds Try.pinned (OpenSpec.ofChange fnExactPutAlarmWrong)

/-- 'laws.FnExactAllAlarms': WHATEVER THE INPUT: true; the input reads as it did. -/
def fnExactAllAlarmsSpec : ChangeSpec := { name := "fnExactAllAlarms", fn := fun _ => fun
  | [d] => { results := [.lit (.bool true)], args := [d] }
  | _ => none }
def fnExactAllAlarmsRow : OpenClaim := { program := "yticgekgojgkbgaa", sum := "0a5c9a15029f6e92e9accd494bee5a7fa4b0dab3317ee3be10185fc01e22ca11", func := "loop.example/g00490/laws.FnExactAllAlarms", spec := "fnExactAllAlarms", inPlace := ["internal/reflectlite.ValueOf", "internal/reflectlite.Swapper", "(internal/reflectlite.Value).Len"], unfollowed := true, recurses := true, apart := false }
def FnExactAllAlarmsSaid : Prop := fnExactAllAlarmsRow.holds Try.pinned (OpenSpec.ofChange fnExactAllAlarmsSpec)

/-- ITS FALSE NEIGHBOUR: 'it returns false'. Refute it at one input. -/
def fnExactAllAlarmsWrong : ChangeSpec := { name := "fnExactAllAlarms", fn := fun _ => fun
  | [d] => { results := [.lit (.bool false)], args := [d] }
  | _ => none }
def FnExactAllAlarmsWrongFalsely : Prop := fnExactAllAlarmsRow.holds Try.pinned (OpenSpec.ofChange fnExactAllAlarmsWrong)

/- THE SECOND FORM. 'bulk': how many values and letters a reading holds, each counted each time it is reached (what is shared counts as often as it is met; a slice's spare places count too). A statement '..UptoSaid' is the law's where the arguments, and the package variables that the reading takes, are together of bulk at most 1048576: NARROWER than '..Said'. Prove '..Said' where nothing that the law and all that it calls make is longer than what came in: it says more and counts as full. Else prove '..UptoSaid'. A law counts once. -/
mutual
def uptoBulk {H : Type} : DataW H → Nat
  | .lit (.string bytes) => bytes.length + 1
  | .lit _ => 1
  | .nil => 1
  | .ptr d => uptoBulk d + 1
  | .slice elems spare => uptoBulkAll elems + uptoBulkAll spare + 1
  | .agg parts => uptoBulkAll parts + 1
  | .iface _ d => uptoBulk d + 1
  | .map entries => uptoBulkEntries entries + 1
  | .held _ => 1
def uptoBulkAll {H : Type} : List (DataW H) → Nat
  | [] => 0
  | d :: r => uptoBulk d + uptoBulkAll r
def uptoBulkEntries {H : Type} : List (Lit × DataW H) → Nat
  | [] => 0
  | x :: r => uptoBulkEntry x + uptoBulkEntries r
def uptoBulkEntry {H : Type} : Lit × DataW H → Nat
  | (.string bytes, d) => bytes.length + uptoBulk d + 1
  | (_, d) => uptoBulk d + 1
 end
def uptoSmall : (H : Type) → List (DataW H) → Bool := fun _ ds => decide (uptoBulkAll ds ≤ 1048576)
def OpenSpec.upto (s : _root_.Go.ChangeSpec) : _root_.Go.OpenSpec := { _root_.Go.OpenSpec.ofChange s with cond := some uptoSmall }

/-- 'laws.FnExactHomeOf', WHERE WHAT IT READS IS OF BULK AT MOST 1048576: true; the input reads as it did. -/
def fnExactHomeOfUptoRow : OpenClaim := { program := "yticgekgojgkbgaa", sum := "0a5c9a15029f6e92e9accd494bee5a7fa4b0dab3317ee3be10185fc01e22ca11", func := "loop.example/g00490/laws.FnExactHomeOf", spec := "fnExactHomeOf", inPlace := ["internal/abi.NoEscape", "internal/bytealg.MakeNoZero"], apart := false, narrowed := true }
def FnExactHomeOfUptoSaid : Prop := fnExactHomeOfUptoRow.holds Try.pinned (OpenSpec.upto fnExactHomeOfSpec)

/-- 'laws.FnExactHoldsPart', WHERE WHAT IT READS IS OF BULK AT MOST 1048576: true; the input reads as it did. -/
def fnExactHoldsPartUptoRow : OpenClaim := { program := "yticgekgojgkbgaa", sum := "0a5c9a15029f6e92e9accd494bee5a7fa4b0dab3317ee3be10185fc01e22ca11", func := "loop.example/g00490/laws.FnExactHoldsPart", spec := "fnExactHoldsPart", inPlace := ["internal/abi.NoEscape", "internal/bytealg.MakeNoZero"], apart := false, narrowed := true }
def FnExactHoldsPartUptoSaid : Prop := fnExactHoldsPartUptoRow.holds Try.pinned (OpenSpec.upto fnExactHoldsPartSpec)

/-- 'laws.FnExactPartOk', WHERE WHAT IT READS IS OF BULK AT MOST 1048576: true; the input reads as it did. -/
def fnExactPartOkUptoRow : OpenClaim := { program := "yticgekgojgkbgaa", sum := "0a5c9a15029f6e92e9accd494bee5a7fa4b0dab3317ee3be10185fc01e22ca11", func := "loop.example/g00490/laws.FnExactPartOk", spec := "fnExactPartOk", inPlace := ["internal/abi.NoEscape", "internal/bytealg.MakeNoZero"], apart := false, narrowed := true }
def FnExactPartOkUptoSaid : Prop := fnExactPartOkUptoRow.holds Try.pinned (OpenSpec.upto fnExactPartOkSpec)

/-- 'laws.FnExactStoreOk', WHERE WHAT IT READS IS OF BULK AT MOST 1048576: true; the input reads as it did. -/
def fnExactStoreOkUptoRow : OpenClaim := { program := "yticgekgojgkbgaa", sum := "0a5c9a15029f6e92e9accd494bee5a7fa4b0dab3317ee3be10185fc01e22ca11", func := "loop.example/g00490/laws.FnExactStoreOk", spec := "fnExactStoreOk", inPlace := ["internal/abi.NoEscape", "internal/bytealg.MakeNoZero"], apart := false, narrowed := true }
def FnExactStoreOkUptoSaid : Prop := fnExactStoreOkUptoRow.holds Try.pinned (OpenSpec.upto fnExactStoreOkSpec)

/-- 'laws.FnExactFindIn', WHERE WHAT IT READS IS OF BULK AT MOST 1048576: true; the input reads as it did. -/
def fnExactFindInUptoRow : OpenClaim := { program := "yticgekgojgkbgaa", sum := "0a5c9a15029f6e92e9accd494bee5a7fa4b0dab3317ee3be10185fc01e22ca11", func := "loop.example/g00490/laws.FnExactFindIn", spec := "fnExactFindIn", inPlace := ["internal/abi.NoEscape", "internal/bytealg.MakeNoZero"], apart := false, narrowed := true }
def FnExactFindInUptoSaid : Prop := fnExactFindInUptoRow.holds Try.pinned (OpenSpec.upto fnExactFindInSpec)

/-- 'laws.FnExactFindAlarm', WHERE WHAT IT READS IS OF BULK AT MOST 1048576: true; the input reads as it did. -/
def fnExactFindAlarmUptoRow : OpenClaim := { program := "yticgekgojgkbgaa", sum := "0a5c9a15029f6e92e9accd494bee5a7fa4b0dab3317ee3be10185fc01e22ca11", func := "loop.example/g00490/laws.FnExactFindAlarm", spec := "fnExactFindAlarm", inPlace := ["internal/abi.NoEscape", "internal/bytealg.MakeNoZero"], apart := false, narrowed := true }
def FnExactFindAlarmUptoSaid : Prop := fnExactFindAlarmUptoRow.holds Try.pinned (OpenSpec.upto fnExactFindAlarmSpec)

/-- 'laws.FnExactPutIn', WHERE WHAT IT READS IS OF BULK AT MOST 1048576: true; the input reads as it did. -/
def fnExactPutInUptoRow : OpenClaim := { program := "yticgekgojgkbgaa", sum := "0a5c9a15029f6e92e9accd494bee5a7fa4b0dab3317ee3be10185fc01e22ca11", func := "loop.example/g00490/laws.FnExactPutIn", spec := "fnExactPutIn", inPlace := ["internal/abi.NoEscape", "internal/bytealg.MakeNoZero"], apart := false, narrowed := true }
def FnExactPutInUptoSaid : Prop := fnExactPutInUptoRow.holds Try.pinned (OpenSpec.upto fnExactPutInSpec)

/-- 'laws.FnExactPutAlarm', WHERE WHAT IT READS IS OF BULK AT MOST 1048576: true; the input reads as it did. -/
def fnExactPutAlarmUptoRow : OpenClaim := { program := "yticgekgojgkbgaa", sum := "0a5c9a15029f6e92e9accd494bee5a7fa4b0dab3317ee3be10185fc01e22ca11", func := "loop.example/g00490/laws.FnExactPutAlarm", spec := "fnExactPutAlarm", inPlace := ["internal/abi.NoEscape", "internal/bytealg.MakeNoZero"], apart := false, narrowed := true }
def FnExactPutAlarmUptoSaid : Prop := fnExactPutAlarmUptoRow.holds Try.pinned (OpenSpec.upto fnExactPutAlarmSpec)

/-- 'laws.FnExactAllAlarms', WHERE WHAT IT READS IS OF BULK AT MOST 1048576: true; the input reads as it did. -/
def fnExactAllAlarmsUptoRow : OpenClaim := { program := "yticgekgojgkbgaa", sum := "0a5c9a15029f6e92e9accd494bee5a7fa4b0dab3317ee3be10185fc01e22ca11", func := "loop.example/g00490/laws.FnExactAllAlarms", spec := "fnExactAllAlarms", inPlace := ["internal/reflectlite.ValueOf", "internal/reflectlite.Swapper", "(internal/reflectlite.Value).Len"], unfollowed := true, recurses := true, apart := false, narrowed := true }
def FnExactAllAlarmsUptoSaid : Prop := fnExactAllAlarmsUptoRow.holds Try.pinned (OpenSpec.upto fnExactAllAlarmsSpec)

end Rows
end Go.Proofs.Yticgekgojgkbgaa
