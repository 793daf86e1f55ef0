/-
  NARROWER THAN 'FOR EVERY INPUT', by the rows' own cells (each row's printed sentence says how): LogicClassical: laid · LogicGlivenko: laid · LogicDisjunction: laid · LogicRenames: laid · LogicLaws: laid · LogicForces: laid · LogicPersists: laid · LogicOwn: laid · LogicDecides: laid · LogicChecks: laid · LogicOnce: laid.
  DERIVED. THE GIVEN ROWS OF THIS SEAT. 11 by the template 'for every input the law returns true; each argument reads behind the call as it read before'; 0 by the template 'total and deterministic' (their statements: YtoilfakpgcjjpaaDoorTotals.lean).
  GIVEN WITH THE SEED: the statements are not yours to turn. If you find one false, say at which input.
  Laid BY PROGRAM, IN A SANDBOX (cutbox-rows.mjs): the forced cells as the released guide's own fill.sh prints them over the translation 668ca80726dece5e… (all of the seat's roots in one cut). By AI agents, Wed Nov 11 2026. No macro, syntax, notation, axiom, sorry.
-/
import Derived.Test.YtoilfakpgcjjpaaDoorChecked
import GoSem.Claim
import GoSem.ClaimJoined
import GoSem.ClaimMapViews
import Derived.JoinedTies
import Derived.KernelRfl
namespace Go.Proofs.YtoilfakpgcjjpaaDoor
/- THE CELL 'sum', in the pinned program and in every row, IS THE sha256 OF THE DUMP (.gsa) THAT YtoilfakpgcjjpaaDoorProg.lean LOADS. Nothing in Lean hashes anything: it is a label: what it is worth is what the hold of that sum in a sandbox is worth. -/
noncomputable def Tryd.pinned : Pinned := { name := "ytoilfakpgcjjpaadoor", sum := "668ca80726dece5e8b156e2142d0ce78d1b42242807c4aa5b724a70a2b55466a", checked := Tryd.checked }
namespace Rows
def none {H : Type} : Left H := { results := [], args := [] }

/- WHAT THE LISTED PACKAGE-LEVEL VARIABLES READ AS WHEN THE CALL BEGINS. Each datum BY PROGRAM (the guide's laid-datum.mjs) off the statement by which the dump's own 'gosem.cut.vars' lays the variable. In a bare row this is a premise. The card (YtoilfakpgcjjpaaDoorCards.lean) ties it to the program's text. -/
def laid_turndown_logic_safe {H : Type} : DataW H := .slice [.lit (.int .i64 0), .lit (.int .i64 1), .lit (.int .i64 6), .lit (.int .i64 9), .lit (.int .i64 10), .lit (.int .i64 8), .lit (.int .i64 5), .lit (.int .i64 7), .lit (.int .i64 2)] []

/-- 'turndownlaw04.LogicClassical': WHATEVER THE INPUT: true; the input reads as it did. -/
def logicClassicalSpec : ChangeSpec := { name := "logicClassical", fn := fun _ => fun
  | [d] => { results := [.lit (.bool true)], args := [d] }
  | _ => none }
def logicClassicalRow : OpenClaim := { program := "ytoilfakpgcjjpaadoor", sum := "668ca80726dece5e8b156e2142d0ce78d1b42242807c4aa5b724a70a2b55466a", func := "turndown/turndownlaw04.LogicClassical", spec := "logicClassical", inPlace := ["internal/bytealg.IndexByteString"], unfollowed := true, recurses := true, named := ["turndown/logic.safe"], apart := false, laid := [("turndown/logic.safe", laid_turndown_logic_safe)] }
def LogicClassicalSaid : Prop := logicClassicalRow.holds Tryd.pinned (OpenSpec.ofChange logicClassicalSpec)

/-- ITS FALSE NEIGHBOUR: 'it returns false'. Refute it at one input. -/
def logicClassicalWrong : ChangeSpec := { name := "logicClassical", fn := fun _ => fun
  | [d] => { results := [.lit (.bool false)], args := [d] }
  | _ => none }
def LogicClassicalWrongFalsely : Prop := logicClassicalRow.holds Tryd.pinned (OpenSpec.ofChange logicClassicalWrong)

/-- 'turndownlaw04.LogicGlivenko': WHATEVER THE INPUT: true; the input reads as it did. -/
def logicGlivenkoSpec : ChangeSpec := { name := "logicGlivenko", fn := fun _ => fun
  | [d] => { results := [.lit (.bool true)], args := [d] }
  | _ => none }
def logicGlivenkoRow : OpenClaim := { program := "ytoilfakpgcjjpaadoor", sum := "668ca80726dece5e8b156e2142d0ce78d1b42242807c4aa5b724a70a2b55466a", func := "turndown/turndownlaw04.LogicGlivenko", spec := "logicGlivenko", inPlace := ["internal/bytealg.IndexByteString"], unfollowed := true, recurses := true, named := ["turndown/logic.safe"], apart := false, laid := [("turndown/logic.safe", laid_turndown_logic_safe)] }
def LogicGlivenkoSaid : Prop := logicGlivenkoRow.holds Tryd.pinned (OpenSpec.ofChange logicGlivenkoSpec)

/-- ITS FALSE NEIGHBOUR: 'it returns false'. Refute it at one input. -/
def logicGlivenkoWrong : ChangeSpec := { name := "logicGlivenko", fn := fun _ => fun
  | [d] => { results := [.lit (.bool false)], args := [d] }
  | _ => none }
def LogicGlivenkoWrongFalsely : Prop := logicGlivenkoRow.holds Tryd.pinned (OpenSpec.ofChange logicGlivenkoWrong)

/-- 'turndownlaw04.LogicDisjunction': WHATEVER THE INPUT: true; the input reads as it did. -/
def logicDisjunctionSpec : ChangeSpec := { name := "logicDisjunction", fn := fun _ => fun
  | [d1, d2] => { results := [.lit (.bool true)], args := [d1, d2] }
  | _ => none }
def logicDisjunctionRow : OpenClaim := { program := "ytoilfakpgcjjpaadoor", sum := "668ca80726dece5e8b156e2142d0ce78d1b42242807c4aa5b724a70a2b55466a", func := "turndown/turndownlaw04.LogicDisjunction", spec := "logicDisjunction", inPlace := ["internal/bytealg.IndexByteString"], unfollowed := true, recurses := true, named := ["turndown/logic.safe"], apart := false, laid := [("turndown/logic.safe", laid_turndown_logic_safe)] }
def LogicDisjunctionSaid : Prop := logicDisjunctionRow.holds Tryd.pinned (OpenSpec.ofChange logicDisjunctionSpec)

/-- ITS FALSE NEIGHBOUR: 'it returns false'. Refute it at one input. -/
def logicDisjunctionWrong : ChangeSpec := { name := "logicDisjunction", fn := fun _ => fun
  | [d1, d2] => { results := [.lit (.bool false)], args := [d1, d2] }
  | _ => none }
def LogicDisjunctionWrongFalsely : Prop := logicDisjunctionRow.holds Tryd.pinned (OpenSpec.ofChange logicDisjunctionWrong)

/-- 'turndownlaw04.LogicRenames': WHATEVER THE INPUT: true; the input reads as it did. -/
def logicRenamesSpec : ChangeSpec := { name := "logicRenames", fn := fun _ => fun
  | [d1, d2, d3] => { results := [.lit (.bool true)], args := [d1, d2, d3] }
  | _ => none }
def logicRenamesRow : OpenClaim := { program := "ytoilfakpgcjjpaadoor", sum := "668ca80726dece5e8b156e2142d0ce78d1b42242807c4aa5b724a70a2b55466a", func := "turndown/turndownlaw04.LogicRenames", spec := "logicRenames", inPlace := ["internal/bytealg.IndexByteString"], unfollowed := true, recurses := true, named := ["turndown/logic.safe"], apart := false, laid := [("turndown/logic.safe", laid_turndown_logic_safe)] }
def LogicRenamesSaid : Prop := logicRenamesRow.holds Tryd.pinned (OpenSpec.ofChange logicRenamesSpec)

/-- ITS FALSE NEIGHBOUR: 'it returns false'. Refute it at one input. -/
def logicRenamesWrong : ChangeSpec := { name := "logicRenames", fn := fun _ => fun
  | [d1, d2, d3] => { results := [.lit (.bool false)], args := [d1, d2, d3] }
  | _ => none }
def LogicRenamesWrongFalsely : Prop := logicRenamesRow.holds Tryd.pinned (OpenSpec.ofChange logicRenamesWrong)

/-- 'turndownlaw04.LogicLaws': WHATEVER THE INPUT: true; the input reads as it did. -/
def logicLawsSpec : ChangeSpec := { name := "logicLaws", fn := fun _ => fun
  | [d1, d2, d3] => { results := [.lit (.bool true)], args := [d1, d2, d3] }
  | _ => none }
def logicLawsRow : OpenClaim := { program := "ytoilfakpgcjjpaadoor", sum := "668ca80726dece5e8b156e2142d0ce78d1b42242807c4aa5b724a70a2b55466a", func := "turndown/turndownlaw04.LogicLaws", spec := "logicLaws", inPlace := ["internal/bytealg.IndexByteString"], unfollowed := true, recurses := true, named := ["turndown/logic.safe"], apart := false, laid := [("turndown/logic.safe", laid_turndown_logic_safe)] }
def LogicLawsSaid : Prop := logicLawsRow.holds Tryd.pinned (OpenSpec.ofChange logicLawsSpec)

/-- ITS FALSE NEIGHBOUR: 'it returns false'. Refute it at one input. -/
def logicLawsWrong : ChangeSpec := { name := "logicLaws", fn := fun _ => fun
  | [d1, d2, d3] => { results := [.lit (.bool false)], args := [d1, d2, d3] }
  | _ => none }
def LogicLawsWrongFalsely : Prop := logicLawsRow.holds Tryd.pinned (OpenSpec.ofChange logicLawsWrong)

/-- 'turndownlaw04.LogicForces': WHATEVER THE INPUT: true; the input reads as it did. -/
def logicForcesSpec : ChangeSpec := { name := "logicForces", fn := fun _ => fun
  | [d1, d2] => { results := [.lit (.bool true)], args := [d1, d2] }
  | _ => none }
def logicForcesRow : OpenClaim := { program := "ytoilfakpgcjjpaadoor", sum := "668ca80726dece5e8b156e2142d0ce78d1b42242807c4aa5b724a70a2b55466a", func := "turndown/turndownlaw04.LogicForces", spec := "logicForces", inPlace := ["internal/bytealg.IndexByteString"], unfollowed := true, recurses := true, named := ["turndown/logic.safe"], apart := false, laid := [("turndown/logic.safe", laid_turndown_logic_safe)] }
def LogicForcesSaid : Prop := logicForcesRow.holds Tryd.pinned (OpenSpec.ofChange logicForcesSpec)

/-- ITS FALSE NEIGHBOUR: 'it returns false'. Refute it at one input. -/
def logicForcesWrong : ChangeSpec := { name := "logicForces", fn := fun _ => fun
  | [d1, d2] => { results := [.lit (.bool false)], args := [d1, d2] }
  | _ => none }
def LogicForcesWrongFalsely : Prop := logicForcesRow.holds Tryd.pinned (OpenSpec.ofChange logicForcesWrong)

/-- 'turndownlaw04.LogicPersists': WHATEVER THE INPUT: true; the input reads as it did. -/
def logicPersistsSpec : ChangeSpec := { name := "logicPersists", fn := fun _ => fun
  | [d1, d2] => { results := [.lit (.bool true)], args := [d1, d2] }
  | _ => none }
def logicPersistsRow : OpenClaim := { program := "ytoilfakpgcjjpaadoor", sum := "668ca80726dece5e8b156e2142d0ce78d1b42242807c4aa5b724a70a2b55466a", func := "turndown/turndownlaw04.LogicPersists", spec := "logicPersists", inPlace := ["internal/bytealg.IndexByteString"], unfollowed := true, recurses := true, named := ["turndown/logic.safe"], apart := false, laid := [("turndown/logic.safe", laid_turndown_logic_safe)] }
def LogicPersistsSaid : Prop := logicPersistsRow.holds Tryd.pinned (OpenSpec.ofChange logicPersistsSpec)

/-- ITS FALSE NEIGHBOUR: 'it returns false'. Refute it at one input. -/
def logicPersistsWrong : ChangeSpec := { name := "logicPersists", fn := fun _ => fun
  | [d1, d2] => { results := [.lit (.bool false)], args := [d1, d2] }
  | _ => none }
def LogicPersistsWrongFalsely : Prop := logicPersistsRow.holds Tryd.pinned (OpenSpec.ofChange logicPersistsWrong)

/-- 'turndownlaw04.LogicOwn': WHATEVER THE INPUT: true; the input reads as it did. -/
def logicOwnSpec : ChangeSpec := { name := "logicOwn", fn := fun _ => fun
  | [d1, d2] => { results := [.lit (.bool true)], args := [d1, d2] }
  | _ => none }
def logicOwnRow : OpenClaim := { program := "ytoilfakpgcjjpaadoor", sum := "668ca80726dece5e8b156e2142d0ce78d1b42242807c4aa5b724a70a2b55466a", func := "turndown/turndownlaw04.LogicOwn", spec := "logicOwn", inPlace := ["internal/bytealg.IndexByteString"], unfollowed := true, recurses := true, named := ["turndown/logic.safe"], apart := false, laid := [("turndown/logic.safe", laid_turndown_logic_safe)] }
def LogicOwnSaid : Prop := logicOwnRow.holds Tryd.pinned (OpenSpec.ofChange logicOwnSpec)

/-- ITS FALSE NEIGHBOUR: 'it returns false'. Refute it at one input. -/
def logicOwnWrong : ChangeSpec := { name := "logicOwn", fn := fun _ => fun
  | [d1, d2] => { results := [.lit (.bool false)], args := [d1, d2] }
  | _ => none }
def LogicOwnWrongFalsely : Prop := logicOwnRow.holds Tryd.pinned (OpenSpec.ofChange logicOwnWrong)

/-- 'turndownlaw04.LogicDecides': WHATEVER THE INPUT: true; the input reads as it did. -/
def logicDecidesSpec : ChangeSpec := { name := "logicDecides", fn := fun _ => fun
  | [d] => { results := [.lit (.bool true)], args := [d] }
  | _ => none }
def logicDecidesRow : OpenClaim := { program := "ytoilfakpgcjjpaadoor", sum := "668ca80726dece5e8b156e2142d0ce78d1b42242807c4aa5b724a70a2b55466a", func := "turndown/turndownlaw04.LogicDecides", spec := "logicDecides", inPlace := ["internal/bytealg.IndexByteString"], unfollowed := true, recurses := true, named := ["turndown/logic.safe"], apart := false, laid := [("turndown/logic.safe", laid_turndown_logic_safe)] }
def LogicDecidesSaid : Prop := logicDecidesRow.holds Tryd.pinned (OpenSpec.ofChange logicDecidesSpec)

/-- ITS FALSE NEIGHBOUR: 'it returns false'. Refute it at one input. -/
def logicDecidesWrong : ChangeSpec := { name := "logicDecides", fn := fun _ => fun
  | [d] => { results := [.lit (.bool false)], args := [d] }
  | _ => none }
def LogicDecidesWrongFalsely : Prop := logicDecidesRow.holds Tryd.pinned (OpenSpec.ofChange logicDecidesWrong)

/-- 'turndownlaw04.LogicChecks': WHATEVER THE INPUT: true; the input reads as it did. -/
def logicChecksSpec : ChangeSpec := { name := "logicChecks", fn := fun _ => fun
  | [d1, d2] => { results := [.lit (.bool true)], args := [d1, d2] }
  | _ => none }
def logicChecksRow : OpenClaim := { program := "ytoilfakpgcjjpaadoor", sum := "668ca80726dece5e8b156e2142d0ce78d1b42242807c4aa5b724a70a2b55466a", func := "turndown/turndownlaw04.LogicChecks", spec := "logicChecks", inPlace := ["internal/bytealg.IndexByteString"], unfollowed := true, recurses := true, named := ["turndown/logic.safe"], apart := false, laid := [("turndown/logic.safe", laid_turndown_logic_safe)] }
def LogicChecksSaid : Prop := logicChecksRow.holds Tryd.pinned (OpenSpec.ofChange logicChecksSpec)

/-- ITS FALSE NEIGHBOUR: 'it returns false'. Refute it at one input. -/
def logicChecksWrong : ChangeSpec := { name := "logicChecks", fn := fun _ => fun
  | [d1, d2] => { results := [.lit (.bool false)], args := [d1, d2] }
  | _ => none }
def LogicChecksWrongFalsely : Prop := logicChecksRow.holds Tryd.pinned (OpenSpec.ofChange logicChecksWrong)

/-- 'turndownlaw04.LogicOnce': WHATEVER THE INPUT: true; the input reads as it did. -/
def logicOnceSpec : ChangeSpec := { name := "logicOnce", fn := fun _ => fun
  | [d1, d2] => { results := [.lit (.bool true)], args := [d1, d2] }
  | _ => none }
def logicOnceRow : OpenClaim := { program := "ytoilfakpgcjjpaadoor", sum := "668ca80726dece5e8b156e2142d0ce78d1b42242807c4aa5b724a70a2b55466a", func := "turndown/turndownlaw04.LogicOnce", spec := "logicOnce", inPlace := ["internal/bytealg.IndexByteString"], unfollowed := true, recurses := true, named := ["turndown/logic.safe"], apart := false, laid := [("turndown/logic.safe", laid_turndown_logic_safe)] }
def LogicOnceSaid : Prop := logicOnceRow.holds Tryd.pinned (OpenSpec.ofChange logicOnceSpec)

/-- ITS FALSE NEIGHBOUR: 'it returns false'. Refute it at one input. -/
def logicOnceWrong : ChangeSpec := { name := "logicOnce", fn := fun _ => fun
  | [d1, d2] => { results := [.lit (.bool false)], args := [d1, d2] }
  | _ => none }
def LogicOnceWrongFalsely : Prop := logicOnceRow.holds Tryd.pinned (OpenSpec.ofChange logicOnceWrong)

/- THE SECOND FORM. 'bulk': how many values and letters a reading holds, each counted each time it is reached (what is shared counts as often as it is met; a slice's spare places count too). A statement '..UptoSaid' is the law's where the arguments, and the package variables that the reading takes, are together of bulk at most 1048576: NARROWER than '..Said'. Prove '..Said' where nothing that the law and all that it calls make is longer than what came in: it says more and counts as full. Else prove '..UptoSaid'. A law counts once. -/
mutual
def uptoBulk {H : Type} : DataW H → Nat
  | .lit (.string bytes) => bytes.length + 1
  | .lit _ => 1
  | .nil => 1
  | .ptr d => uptoBulk d + 1
  | .slice elems spare => uptoBulkAll elems + uptoBulkAll spare + 1
  | .agg parts => uptoBulkAll parts + 1
  | .iface _ d => uptoBulk d + 1
  | .map entries => uptoBulkEntries entries + 1
  | .held _ => 1
def uptoBulkAll {H : Type} : List (DataW H) → Nat
  | [] => 0
  | d :: r => uptoBulk d + uptoBulkAll r
def uptoBulkEntries {H : Type} : List (Lit × DataW H) → Nat
  | [] => 0
  | x :: r => uptoBulkEntry x + uptoBulkEntries r
def uptoBulkEntry {H : Type} : Lit × DataW H → Nat
  | (.string bytes, d) => bytes.length + uptoBulk d + 1
  | (_, d) => uptoBulk d + 1
 end
def uptoSmall : (H : Type) → List (DataW H) → Bool := fun _ ds => decide (uptoBulkAll ds ≤ 1048576)
def OpenSpec.upto (s : _root_.Go.ChangeSpec) : _root_.Go.OpenSpec := { _root_.Go.OpenSpec.ofChange s with cond := some uptoSmall }

/-- 'turndownlaw04.LogicClassical', WHERE WHAT IT READS IS OF BULK AT MOST 1048576: true; the input reads as it did. -/
def logicClassicalUptoRow : OpenClaim := { program := "ytoilfakpgcjjpaadoor", sum := "668ca80726dece5e8b156e2142d0ce78d1b42242807c4aa5b724a70a2b55466a", func := "turndown/turndownlaw04.LogicClassical", spec := "logicClassical", inPlace := ["internal/bytealg.IndexByteString"], unfollowed := true, recurses := true, named := ["turndown/logic.safe"], apart := false, laid := [("turndown/logic.safe", laid_turndown_logic_safe)], narrowed := true }
def LogicClassicalUptoSaid : Prop := logicClassicalUptoRow.holds Tryd.pinned (OpenSpec.upto logicClassicalSpec)

/-- 'turndownlaw04.LogicGlivenko', WHERE WHAT IT READS IS OF BULK AT MOST 1048576: true; the input reads as it did. -/
def logicGlivenkoUptoRow : OpenClaim := { program := "ytoilfakpgcjjpaadoor", sum := "668ca80726dece5e8b156e2142d0ce78d1b42242807c4aa5b724a70a2b55466a", func := "turndown/turndownlaw04.LogicGlivenko", spec := "logicGlivenko", inPlace := ["internal/bytealg.IndexByteString"], unfollowed := true, recurses := true, named := ["turndown/logic.safe"], apart := false, laid := [("turndown/logic.safe", laid_turndown_logic_safe)], narrowed := true }
def LogicGlivenkoUptoSaid : Prop := logicGlivenkoUptoRow.holds Tryd.pinned (OpenSpec.upto logicGlivenkoSpec)

/-- 'turndownlaw04.LogicDisjunction', WHERE WHAT IT READS IS OF BULK AT MOST 1048576: true; the input reads as it did. -/
def logicDisjunctionUptoRow : OpenClaim := { program := "ytoilfakpgcjjpaadoor", sum := "668ca80726dece5e8b156e2142d0ce78d1b42242807c4aa5b724a70a2b55466a", func := "turndown/turndownlaw04.LogicDisjunction", spec := "logicDisjunction", inPlace := ["internal/bytealg.IndexByteString"], unfollowed := true, recurses := true, named := ["turndown/logic.safe"], apart := false, laid := [("turndown/logic.safe", laid_turndown_logic_safe)], narrowed := true }
def LogicDisjunctionUptoSaid : Prop := logicDisjunctionUptoRow.holds Tryd.pinned (OpenSpec.upto logicDisjunctionSpec)

/-- 'turndownlaw04.LogicRenames', WHERE WHAT IT READS IS OF BULK AT MOST 1048576: true; the input reads as it did. -/
def logicRenamesUptoRow : OpenClaim := { program := "ytoilfakpgcjjpaadoor", sum := "668ca80726dece5e8b156e2142d0ce78d1b42242807c4aa5b724a70a2b55466a", func := "turndown/turndownlaw04.LogicRenames", spec := "logicRenames", inPlace := ["internal/bytealg.IndexByteString"], unfollowed := true, recurses := true, named := ["turndown/logic.safe"], apart := false, laid := [("turndown/logic.safe", laid_turndown_logic_safe)], narrowed := true }
def LogicRenamesUptoSaid : Prop := logicRenamesUptoRow.holds Tryd.pinned (OpenSpec.upto logicRenamesSpec)

/-- 'turndownlaw04.LogicLaws', WHERE WHAT IT READS IS OF BULK AT MOST 1048576: true; the input reads as it did. -/
def logicLawsUptoRow : OpenClaim := { program := "ytoilfakpgcjjpaadoor", sum := "668ca80726dece5e8b156e2142d0ce78d1b42242807c4aa5b724a70a2b55466a", func := "turndown/turndownlaw04.LogicLaws", spec := "logicLaws", inPlace := ["internal/bytealg.IndexByteString"], unfollowed := true, recurses := true, named := ["turndown/logic.safe"], apart := false, laid := [("turndown/logic.safe", laid_turndown_logic_safe)], narrowed := true }
def LogicLawsUptoSaid : Prop := logicLawsUptoRow.holds Tryd.pinned (OpenSpec.upto logicLawsSpec)

/-- 'turndownlaw04.LogicForces', WHERE WHAT IT READS IS OF BULK AT MOST 1048576: true; the input reads as it did. -/
def logicForcesUptoRow : OpenClaim := { program := "ytoilfakpgcjjpaadoor", sum := "668ca80726dece5e8b156e2142d0ce78d1b42242807c4aa5b724a70a2b55466a", func := "turndown/turndownlaw04.LogicForces", spec := "logicForces", inPlace := ["internal/bytealg.IndexByteString"], unfollowed := true, recurses := true, named := ["turndown/logic.safe"], apart := false, laid := [("turndown/logic.safe", laid_turndown_logic_safe)], narrowed := true }
def LogicForcesUptoSaid : Prop := logicForcesUptoRow.holds Tryd.pinned (OpenSpec.upto logicForcesSpec)

/-- 'turndownlaw04.LogicPersists', WHERE WHAT IT READS IS OF BULK AT MOST 1048576: true; the input reads as it did. -/
def logicPersistsUptoRow : OpenClaim := { program := "ytoilfakpgcjjpaadoor", sum := "668ca80726dece5e8b156e2142d0ce78d1b42242807c4aa5b724a70a2b55466a", func := "turndown/turndownlaw04.LogicPersists", spec := "logicPersists", inPlace := ["internal/bytealg.IndexByteString"], unfollowed := true, recurses := true, named := ["turndown/logic.safe"], apart := false, laid := [("turndown/logic.safe", laid_turndown_logic_safe)], narrowed := true }
def LogicPersistsUptoSaid : Prop := logicPersistsUptoRow.holds Tryd.pinned (OpenSpec.upto logicPersistsSpec)

/-- 'turndownlaw04.LogicOwn', WHERE WHAT IT READS IS OF BULK AT MOST 1048576: true; the input reads as it did. -/
def logicOwnUptoRow : OpenClaim := { program := "ytoilfakpgcjjpaadoor", sum := "668ca80726dece5e8b156e2142d0ce78d1b42242807c4aa5b724a70a2b55466a", func := "turndown/turndownlaw04.LogicOwn", spec := "logicOwn", inPlace := ["internal/bytealg.IndexByteString"], unfollowed := true, recurses := true, named := ["turndown/logic.safe"], apart := false, laid := [("turndown/logic.safe", laid_turndown_logic_safe)], narrowed := true }
def LogicOwnUptoSaid : Prop := logicOwnUptoRow.holds Tryd.pinned (OpenSpec.upto logicOwnSpec)

/-- 'turndownlaw04.LogicDecides', WHERE WHAT IT READS IS OF BULK AT MOST 1048576: true; the input reads as it did. -/
def logicDecidesUptoRow : OpenClaim := { program := "ytoilfakpgcjjpaadoor", sum := "668ca80726dece5e8b156e2142d0ce78d1b42242807c4aa5b724a70a2b55466a", func := "turndown/turndownlaw04.LogicDecides", spec := "logicDecides", inPlace := ["internal/bytealg.IndexByteString"], unfollowed := true, recurses := true, named := ["turndown/logic.safe"], apart := false, laid := [("turndown/logic.safe", laid_turndown_logic_safe)], narrowed := true }
def LogicDecidesUptoSaid : Prop := logicDecidesUptoRow.holds Tryd.pinned (OpenSpec.upto logicDecidesSpec)

/-- 'turndownlaw04.LogicChecks', WHERE WHAT IT READS IS OF BULK AT MOST 1048576: true; the input reads as it did. -/
def logicChecksUptoRow : OpenClaim := { program := "ytoilfakpgcjjpaadoor", sum := "668ca80726dece5e8b156e2142d0ce78d1b42242807c4aa5b724a70a2b55466a", func := "turndown/turndownlaw04.LogicChecks", spec := "logicChecks", inPlace := ["internal/bytealg.IndexByteString"], unfollowed := true, recurses := true, named := ["turndown/logic.safe"], apart := false, laid := [("turndown/logic.safe", laid_turndown_logic_safe)], narrowed := true }
def LogicChecksUptoSaid : Prop := logicChecksUptoRow.holds Tryd.pinned (OpenSpec.upto logicChecksSpec)

/-- 'turndownlaw04.LogicOnce', WHERE WHAT IT READS IS OF BULK AT MOST 1048576: true; the input reads as it did. -/
def logicOnceUptoRow : OpenClaim := { program := "ytoilfakpgcjjpaadoor", sum := "668ca80726dece5e8b156e2142d0ce78d1b42242807c4aa5b724a70a2b55466a", func := "turndown/turndownlaw04.LogicOnce", spec := "logicOnce", inPlace := ["internal/bytealg.IndexByteString"], unfollowed := true, recurses := true, named := ["turndown/logic.safe"], apart := false, laid := [("turndown/logic.safe", laid_turndown_logic_safe)], narrowed := true }
def LogicOnceUptoSaid : Prop := logicOnceUptoRow.holds Tryd.pinned (OpenSpec.upto logicOnceSpec)

end Rows
end Go.Proofs.YtoilfakpgcjjpaaDoor
