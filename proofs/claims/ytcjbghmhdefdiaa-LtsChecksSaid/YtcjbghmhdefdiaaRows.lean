/-
  No cell of these rows narrows 'for every input' (looked for: loops, veiled, ifaces, maps, wideKeys, modest, calm, conditions, laid).
  DERIVED. THE GIVEN ROWS OF THIS SEAT. 15 by the template 'for every input the law returns true; each argument reads behind the call as it read before'; 0 by the template 'total and deterministic' (their statements: YtcjbghmhdefdiaaTotals.lean).
  GIVEN WITH THE SEED: the statements are not yours to turn. If you find one false, say at which input.
  Laid BY PROGRAM, IN A SANDBOX (cutbox-rows.mjs): the forced cells as the released guide's own fill.sh prints them over the translation 7af58e0251a0a1cc… (all of the seat's roots in one cut). By AI agents, Wed Nov 11 2026. No macro, syntax, notation, axiom, sorry.
-/
import Derived.Test.YtcjbghmhdefdiaaChecked
import GoSem.Claim
import GoSem.ClaimJoined
import GoSem.ClaimMapViews
import Derived.JoinedTies
import Derived.KernelRfl
namespace Go.Proofs.Ytcjbghmhdefdiaa
/- THE CELL 'sum', in the pinned program and in every row, IS THE sha256 OF THE DUMP (.gsa) THAT YtcjbghmhdefdiaaProg.lean LOADS. Nothing in Lean hashes anything: it is a label: what it is worth is what the hold of that sum in a sandbox is worth. -/
noncomputable def Try.pinned : Pinned := { name := "ytcjbghmhdefdiaa", sum := "7af58e0251a0a1cc56abb5f29cfc29fe9638e11f6a48e762a3b9ec3781a42ac7", checked := Try.checked }
namespace Rows
def none {H : Type} : Left H := { results := [], args := [] }

/-- 'semblancelaw34.RefineOf': WHATEVER THE INPUT: true; the input reads as it did. -/
def refineOfSpec : ChangeSpec := { name := "refineOf", fn := fun _ => fun
  | [d1, d2, d3] => { results := [.lit (.bool true)], args := [d1, d2, d3] }
  | _ => none }
def refineOfRow : OpenClaim := { program := "ytcjbghmhdefdiaa", sum := "7af58e0251a0a1cc56abb5f29cfc29fe9638e11f6a48e762a3b9ec3781a42ac7", func := "semblance/semblancelaw34.RefineOf", spec := "refineOf", unfollowed := true, recurses := true, plainKeys := false, apart := false }
def RefineOfSaid : Prop := refineOfRow.holds Try.pinned (OpenSpec.ofChange refineOfSpec)

/-- ITS FALSE NEIGHBOUR: 'it returns false'. Refute it at one input. -/
def refineOfWrong : ChangeSpec := { name := "refineOf", fn := fun _ => fun
  | [d1, d2, d3] => { results := [.lit (.bool false)], args := [d1, d2, d3] }
  | _ => none }
def RefineOfWrongFalsely : Prop := refineOfRow.holds Try.pinned (OpenSpec.ofChange refineOfWrong)

/-- 'semblancelaw49.CoverOf': WHATEVER THE INPUT: true; the input reads as it did. -/
def coverOfSpec : ChangeSpec := { name := "coverOf", fn := fun _ => fun
  | [d1, d2] => { results := [.lit (.bool true)], args := [d1, d2] }
  | _ => none }
def coverOfRow : OpenClaim := { program := "ytcjbghmhdefdiaa", sum := "7af58e0251a0a1cc56abb5f29cfc29fe9638e11f6a48e762a3b9ec3781a42ac7", func := "semblance/semblancelaw49.CoverOf", spec := "coverOf", unfollowed := true, recurses := true, plainKeys := false, apart := false }
def CoverOfSaid : Prop := coverOfRow.holds Try.pinned (OpenSpec.ofChange coverOfSpec)

/-- ITS FALSE NEIGHBOUR: 'it returns false'. Refute it at one input. -/
def coverOfWrong : ChangeSpec := { name := "coverOf", fn := fun _ => fun
  | [d1, d2] => { results := [.lit (.bool false)], args := [d1, d2] }
  | _ => none }
def CoverOfWrongFalsely : Prop := coverOfRow.holds Try.pinned (OpenSpec.ofChange coverOfWrong)

/-- 'semblancelaw35.BisimBlocks': WHATEVER THE INPUT: true; the input reads as it did. -/
def bisimBlocksSpec : ChangeSpec := { name := "bisimBlocks", fn := fun _ => fun
  | [d] => { results := [.lit (.bool true)], args := [d] }
  | _ => none }
def bisimBlocksRow : OpenClaim := { program := "ytcjbghmhdefdiaa", sum := "7af58e0251a0a1cc56abb5f29cfc29fe9638e11f6a48e762a3b9ec3781a42ac7", func := "semblance/semblancelaw35.BisimBlocks", spec := "bisimBlocks", unfollowed := true, recurses := true, plainKeys := false, apart := false }
def BisimBlocksSaid : Prop := bisimBlocksRow.holds Try.pinned (OpenSpec.ofChange bisimBlocksSpec)

/-- ITS FALSE NEIGHBOUR: 'it returns false'. Refute it at one input. -/
def bisimBlocksWrong : ChangeSpec := { name := "bisimBlocks", fn := fun _ => fun
  | [d] => { results := [.lit (.bool false)], args := [d] }
  | _ => none }
def BisimBlocksWrongFalsely : Prop := bisimBlocksRow.holds Try.pinned (OpenSpec.ofChange bisimBlocksWrong)

/-- 'semblancelaw49.CoverAll': WHATEVER THE INPUT: true; the input reads as it did. -/
def coverAllSpec : ChangeSpec := { name := "coverAll", fn := fun _ => fun
  | [d] => { results := [.lit (.bool true)], args := [d] }
  | _ => none }
def coverAllRow : OpenClaim := { program := "ytcjbghmhdefdiaa", sum := "7af58e0251a0a1cc56abb5f29cfc29fe9638e11f6a48e762a3b9ec3781a42ac7", func := "semblance/semblancelaw49.CoverAll", spec := "coverAll", unfollowed := true, recurses := true, plainKeys := false, apart := false }
def CoverAllSaid : Prop := coverAllRow.holds Try.pinned (OpenSpec.ofChange coverAllSpec)

/-- ITS FALSE NEIGHBOUR: 'it returns false'. Refute it at one input. -/
def coverAllWrong : ChangeSpec := { name := "coverAll", fn := fun _ => fun
  | [d] => { results := [.lit (.bool false)], args := [d] }
  | _ => none }
def CoverAllWrongFalsely : Prop := coverAllRow.holds Try.pinned (OpenSpec.ofChange coverAllWrong)

/-- 'semblancelaw60.SuiteOf': WHATEVER THE INPUT: true; the input reads as it did. -/
def suiteOfSpec : ChangeSpec := { name := "suiteOf", fn := fun _ => fun
  | [d1, d2, d3] => { results := [.lit (.bool true)], args := [d1, d2, d3] }
  | _ => none }
def suiteOfRow : OpenClaim := { program := "ytcjbghmhdefdiaa", sum := "7af58e0251a0a1cc56abb5f29cfc29fe9638e11f6a48e762a3b9ec3781a42ac7", func := "semblance/semblancelaw60.SuiteOf", spec := "suiteOf", unfollowed := true, recurses := true, plainKeys := false, apart := false }
def SuiteOfSaid : Prop := suiteOfRow.holds Try.pinned (OpenSpec.ofChange suiteOfSpec)

/-- ITS FALSE NEIGHBOUR: 'it returns false'. Refute it at one input. -/
def suiteOfWrong : ChangeSpec := { name := "suiteOf", fn := fun _ => fun
  | [d1, d2, d3] => { results := [.lit (.bool false)], args := [d1, d2, d3] }
  | _ => none }
def SuiteOfWrongFalsely : Prop := suiteOfRow.holds Try.pinned (OpenSpec.ofChange suiteOfWrong)

/-- 'semblancelaw60.SuiteTells': WHATEVER THE INPUT: true; the input reads as it did. -/
def suiteTellsSpec : ChangeSpec := { name := "suiteTells", fn := fun _ => fun
  | [d] => { results := [.lit (.bool true)], args := [d] }
  | _ => none }
def suiteTellsRow : OpenClaim := { program := "ytcjbghmhdefdiaa", sum := "7af58e0251a0a1cc56abb5f29cfc29fe9638e11f6a48e762a3b9ec3781a42ac7", func := "semblance/semblancelaw60.SuiteTells", spec := "suiteTells", unfollowed := true, recurses := true, plainKeys := false, apart := false }
def SuiteTellsSaid : Prop := suiteTellsRow.holds Try.pinned (OpenSpec.ofChange suiteTellsSpec)

/-- ITS FALSE NEIGHBOUR: 'it returns false'. Refute it at one input. -/
def suiteTellsWrong : ChangeSpec := { name := "suiteTells", fn := fun _ => fun
  | [d] => { results := [.lit (.bool false)], args := [d] }
  | _ => none }
def SuiteTellsWrongFalsely : Prop := suiteTellsRow.holds Try.pinned (OpenSpec.ofChange suiteTellsWrong)

/-- 'semblancelaw52.DeadOf': WHATEVER THE INPUT: true; the input reads as it did. -/
def deadOfSpec : ChangeSpec := { name := "deadOf", fn := fun _ => fun
  | [d] => { results := [.lit (.bool true)], args := [d] }
  | _ => none }
def deadOfRow : OpenClaim := { program := "ytcjbghmhdefdiaa", sum := "7af58e0251a0a1cc56abb5f29cfc29fe9638e11f6a48e762a3b9ec3781a42ac7", func := "semblance/semblancelaw52.DeadOf", spec := "deadOf", unfollowed := true, recurses := true, plainKeys := false, apart := false }
def DeadOfSaid : Prop := deadOfRow.holds Try.pinned (OpenSpec.ofChange deadOfSpec)

/-- ITS FALSE NEIGHBOUR: 'it returns false'. Refute it at one input. -/
def deadOfWrong : ChangeSpec := { name := "deadOf", fn := fun _ => fun
  | [d] => { results := [.lit (.bool false)], args := [d] }
  | _ => none }
def DeadOfWrongFalsely : Prop := deadOfRow.holds Try.pinned (OpenSpec.ofChange deadOfWrong)

/-- 'semblancelaw51.RelabelOf': WHATEVER THE INPUT: true; the input reads as it did. -/
def relabelOfSpec : ChangeSpec := { name := "relabelOf", fn := fun _ => fun
  | [d1, d2, d3] => { results := [.lit (.bool true)], args := [d1, d2, d3] }
  | _ => none }
def relabelOfRow : OpenClaim := { program := "ytcjbghmhdefdiaa", sum := "7af58e0251a0a1cc56abb5f29cfc29fe9638e11f6a48e762a3b9ec3781a42ac7", func := "semblance/semblancelaw51.RelabelOf", spec := "relabelOf", unfollowed := true, recurses := true, plainKeys := false, apart := false }
def RelabelOfSaid : Prop := relabelOfRow.holds Try.pinned (OpenSpec.ofChange relabelOfSpec)

/-- ITS FALSE NEIGHBOUR: 'it returns false'. Refute it at one input. -/
def relabelOfWrong : ChangeSpec := { name := "relabelOf", fn := fun _ => fun
  | [d1, d2, d3] => { results := [.lit (.bool false)], args := [d1, d2, d3] }
  | _ => none }
def RelabelOfWrongFalsely : Prop := relabelOfRow.holds Try.pinned (OpenSpec.ofChange relabelOfWrong)

/-- 'semblancelaw50.ProductOf': WHATEVER THE INPUT: true; the input reads as it did. -/
def productOfSpec : ChangeSpec := { name := "productOf", fn := fun _ => fun
  | [d1, d2, d3] => { results := [.lit (.bool true)], args := [d1, d2, d3] }
  | _ => none }
def productOfRow : OpenClaim := { program := "ytcjbghmhdefdiaa", sum := "7af58e0251a0a1cc56abb5f29cfc29fe9638e11f6a48e762a3b9ec3781a42ac7", func := "semblance/semblancelaw50.ProductOf", spec := "productOf", unfollowed := true, recurses := true, plainKeys := false, apart := false }
def ProductOfSaid : Prop := productOfRow.holds Try.pinned (OpenSpec.ofChange productOfSpec)

/-- ITS FALSE NEIGHBOUR: 'it returns false'. Refute it at one input. -/
def productOfWrong : ChangeSpec := { name := "productOf", fn := fun _ => fun
  | [d1, d2, d3] => { results := [.lit (.bool false)], args := [d1, d2, d3] }
  | _ => none }
def ProductOfWrongFalsely : Prop := productOfRow.holds Try.pinned (OpenSpec.ofChange productOfWrong)

/-- 'semblancelaw50.ProductFull': WHATEVER THE INPUT: true; the input reads as it did. -/
def productFullSpec : ChangeSpec := { name := "productFull", fn := fun _ => fun
  | [d1, d2] => { results := [.lit (.bool true)], args := [d1, d2] }
  | _ => none }
def productFullRow : OpenClaim := { program := "ytcjbghmhdefdiaa", sum := "7af58e0251a0a1cc56abb5f29cfc29fe9638e11f6a48e762a3b9ec3781a42ac7", func := "semblance/semblancelaw50.ProductFull", spec := "productFull", unfollowed := true, recurses := true, plainKeys := false, apart := false }
def ProductFullSaid : Prop := productFullRow.holds Try.pinned (OpenSpec.ofChange productFullSpec)

/-- ITS FALSE NEIGHBOUR: 'it returns false'. Refute it at one input. -/
def productFullWrong : ChangeSpec := { name := "productFull", fn := fun _ => fun
  | [d1, d2] => { results := [.lit (.bool false)], args := [d1, d2] }
  | _ => none }
def ProductFullWrongFalsely : Prop := productFullRow.holds Try.pinned (OpenSpec.ofChange productFullWrong)

/-- 'semblancelaw26.LtsChecks': WHATEVER THE INPUT: true; the input reads as it did. -/
def ltsChecksSpec : ChangeSpec := { name := "ltsChecks", fn := fun _ => fun
  | [d] => { results := [.lit (.bool true)], args := [d] }
  | _ => none }
def ltsChecksRow : OpenClaim := { program := "ytcjbghmhdefdiaa", sum := "7af58e0251a0a1cc56abb5f29cfc29fe9638e11f6a48e762a3b9ec3781a42ac7", func := "semblance/semblancelaw26.LtsChecks", spec := "ltsChecks", unfollowed := true, recurses := true, plainKeys := false, apart := false }
def LtsChecksSaid : Prop := ltsChecksRow.holds Try.pinned (OpenSpec.ofChange ltsChecksSpec)

/-- ITS FALSE NEIGHBOUR: 'it returns false'. Refute it at one input. -/
def ltsChecksWrong : ChangeSpec := { name := "ltsChecks", fn := fun _ => fun
  | [d] => { results := [.lit (.bool false)], args := [d] }
  | _ => none }
def LtsChecksWrongFalsely : Prop := ltsChecksRow.holds Try.pinned (OpenSpec.ofChange ltsChecksWrong)

/-- 'semblancelaw26.LtsTells': WHATEVER THE INPUT: true; the input reads as it did. -/
def ltsTellsSpec : ChangeSpec := { name := "ltsTells", fn := fun _ => fun
  | [d1, d2, d3] => { results := [.lit (.bool true)], args := [d1, d2, d3] }
  | _ => none }
def ltsTellsRow : OpenClaim := { program := "ytcjbghmhdefdiaa", sum := "7af58e0251a0a1cc56abb5f29cfc29fe9638e11f6a48e762a3b9ec3781a42ac7", func := "semblance/semblancelaw26.LtsTells", spec := "ltsTells", unfollowed := true, recurses := true, plainKeys := false, apart := false }
def LtsTellsSaid : Prop := ltsTellsRow.holds Try.pinned (OpenSpec.ofChange ltsTellsSpec)

/-- ITS FALSE NEIGHBOUR: 'it returns false'. Refute it at one input. -/
def ltsTellsWrong : ChangeSpec := { name := "ltsTells", fn := fun _ => fun
  | [d1, d2, d3] => { results := [.lit (.bool false)], args := [d1, d2, d3] }
  | _ => none }
def LtsTellsWrongFalsely : Prop := ltsTellsRow.holds Try.pinned (OpenSpec.ofChange ltsTellsWrong)

/-- 'semblancelaw26.LtsReached': WHATEVER THE INPUT: true; the input reads as it did. -/
def ltsReachedSpec : ChangeSpec := { name := "ltsReached", fn := fun _ => fun
  | [d1, d2] => { results := [.lit (.bool true)], args := [d1, d2] }
  | _ => none }
def ltsReachedRow : OpenClaim := { program := "ytcjbghmhdefdiaa", sum := "7af58e0251a0a1cc56abb5f29cfc29fe9638e11f6a48e762a3b9ec3781a42ac7", func := "semblance/semblancelaw26.LtsReached", spec := "ltsReached", unfollowed := true, recurses := true, plainKeys := false, apart := false }
def LtsReachedSaid : Prop := ltsReachedRow.holds Try.pinned (OpenSpec.ofChange ltsReachedSpec)

/-- ITS FALSE NEIGHBOUR: 'it returns false'. Refute it at one input. -/
def ltsReachedWrong : ChangeSpec := { name := "ltsReached", fn := fun _ => fun
  | [d1, d2] => { results := [.lit (.bool false)], args := [d1, d2] }
  | _ => none }
def LtsReachedWrongFalsely : Prop := ltsReachedRow.holds Try.pinned (OpenSpec.ofChange ltsReachedWrong)

/-- 'semblancelaw36.QuotOf': WHATEVER THE INPUT: true; the input reads as it did. -/
def quotOfSpec : ChangeSpec := { name := "quotOf", fn := fun _ => fun
  | [d1, d2] => { results := [.lit (.bool true)], args := [d1, d2] }
  | _ => none }
def quotOfRow : OpenClaim := { program := "ytcjbghmhdefdiaa", sum := "7af58e0251a0a1cc56abb5f29cfc29fe9638e11f6a48e762a3b9ec3781a42ac7", func := "semblance/semblancelaw36.QuotOf", spec := "quotOf", unfollowed := true, recurses := true, plainKeys := false, apart := false }
def QuotOfSaid : Prop := quotOfRow.holds Try.pinned (OpenSpec.ofChange quotOfSpec)

/-- ITS FALSE NEIGHBOUR: 'it returns false'. Refute it at one input. -/
def quotOfWrong : ChangeSpec := { name := "quotOf", fn := fun _ => fun
  | [d1, d2] => { results := [.lit (.bool false)], args := [d1, d2] }
  | _ => none }
def QuotOfWrongFalsely : Prop := quotOfRow.holds Try.pinned (OpenSpec.ofChange quotOfWrong)

/-- 'semblancelaw36.QuotLeast': WHATEVER THE INPUT: true; the input reads as it did. -/
def quotLeastSpec : ChangeSpec := { name := "quotLeast", fn := fun _ => fun
  | [d] => { results := [.lit (.bool true)], args := [d] }
  | _ => none }
def quotLeastRow : OpenClaim := { program := "ytcjbghmhdefdiaa", sum := "7af58e0251a0a1cc56abb5f29cfc29fe9638e11f6a48e762a3b9ec3781a42ac7", func := "semblance/semblancelaw36.QuotLeast", spec := "quotLeast", unfollowed := true, recurses := true, plainKeys := false, apart := false }
def QuotLeastSaid : Prop := quotLeastRow.holds Try.pinned (OpenSpec.ofChange quotLeastSpec)

/-- ITS FALSE NEIGHBOUR: 'it returns false'. Refute it at one input. -/
def quotLeastWrong : ChangeSpec := { name := "quotLeast", fn := fun _ => fun
  | [d] => { results := [.lit (.bool false)], args := [d] }
  | _ => none }
def QuotLeastWrongFalsely : Prop := quotLeastRow.holds Try.pinned (OpenSpec.ofChange quotLeastWrong)

/- THE SECOND FORM. 'bulk': how many values and letters a reading holds, each counted each time it is reached (what is shared counts as often as it is met; a slice's spare places count too). A statement '..UptoSaid' is the law's where the arguments, and the package variables that the reading takes, are together of bulk at most 1048576: NARROWER than '..Said'. Prove '..Said' where nothing that the law and all that it calls make is longer than what came in: it says more and counts as full. Else prove '..UptoSaid'. A law counts once. -/
mutual
def uptoBulk {H : Type} : DataW H → Nat
  | .lit (.string bytes) => bytes.length + 1
  | .lit _ => 1
  | .nil => 1
  | .ptr d => uptoBulk d + 1
  | .slice elems spare => uptoBulkAll elems + uptoBulkAll spare + 1
  | .agg parts => uptoBulkAll parts + 1
  | .iface _ d => uptoBulk d + 1
  | .map entries => uptoBulkEntries entries + 1
  | .held _ => 1
def uptoBulkAll {H : Type} : List (DataW H) → Nat
  | [] => 0
  | d :: r => uptoBulk d + uptoBulkAll r
def uptoBulkEntries {H : Type} : List (Lit × DataW H) → Nat
  | [] => 0
  | x :: r => uptoBulkEntry x + uptoBulkEntries r
def uptoBulkEntry {H : Type} : Lit × DataW H → Nat
  | (.string bytes, d) => bytes.length + uptoBulk d + 1
  | (_, d) => uptoBulk d + 1
 end
def uptoSmall : (H : Type) → List (DataW H) → Bool := fun _ ds => decide (uptoBulkAll ds ≤ 1048576)
def OpenSpec.upto (s : _root_.Go.ChangeSpec) : _root_.Go.OpenSpec := { _root_.Go.OpenSpec.ofChange s with cond := some uptoSmall }

/-- 'semblancelaw34.RefineOf', WHERE WHAT IT READS IS OF BULK AT MOST 1048576: true; the input reads as it did. -/
def refineOfUptoRow : OpenClaim := { program := "ytcjbghmhdefdiaa", sum := "7af58e0251a0a1cc56abb5f29cfc29fe9638e11f6a48e762a3b9ec3781a42ac7", func := "semblance/semblancelaw34.RefineOf", spec := "refineOf", unfollowed := true, recurses := true, plainKeys := false, apart := false, narrowed := true }
def RefineOfUptoSaid : Prop := refineOfUptoRow.holds Try.pinned (OpenSpec.upto refineOfSpec)

/-- 'semblancelaw49.CoverOf', WHERE WHAT IT READS IS OF BULK AT MOST 1048576: true; the input reads as it did. -/
def coverOfUptoRow : OpenClaim := { program := "ytcjbghmhdefdiaa", sum := "7af58e0251a0a1cc56abb5f29cfc29fe9638e11f6a48e762a3b9ec3781a42ac7", func := "semblance/semblancelaw49.CoverOf", spec := "coverOf", unfollowed := true, recurses := true, plainKeys := false, apart := false, narrowed := true }
def CoverOfUptoSaid : Prop := coverOfUptoRow.holds Try.pinned (OpenSpec.upto coverOfSpec)

/-- 'semblancelaw35.BisimBlocks', WHERE WHAT IT READS IS OF BULK AT MOST 1048576: true; the input reads as it did. -/
def bisimBlocksUptoRow : OpenClaim := { program := "ytcjbghmhdefdiaa", sum := "7af58e0251a0a1cc56abb5f29cfc29fe9638e11f6a48e762a3b9ec3781a42ac7", func := "semblance/semblancelaw35.BisimBlocks", spec := "bisimBlocks", unfollowed := true, recurses := true, plainKeys := false, apart := false, narrowed := true }
def BisimBlocksUptoSaid : Prop := bisimBlocksUptoRow.holds Try.pinned (OpenSpec.upto bisimBlocksSpec)

/-- 'semblancelaw49.CoverAll', WHERE WHAT IT READS IS OF BULK AT MOST 1048576: true; the input reads as it did. -/
def coverAllUptoRow : OpenClaim := { program := "ytcjbghmhdefdiaa", sum := "7af58e0251a0a1cc56abb5f29cfc29fe9638e11f6a48e762a3b9ec3781a42ac7", func := "semblance/semblancelaw49.CoverAll", spec := "coverAll", unfollowed := true, recurses := true, plainKeys := false, apart := false, narrowed := true }
def CoverAllUptoSaid : Prop := coverAllUptoRow.holds Try.pinned (OpenSpec.upto coverAllSpec)

/-- 'semblancelaw60.SuiteOf', WHERE WHAT IT READS IS OF BULK AT MOST 1048576: true; the input reads as it did. -/
def suiteOfUptoRow : OpenClaim := { program := "ytcjbghmhdefdiaa", sum := "7af58e0251a0a1cc56abb5f29cfc29fe9638e11f6a48e762a3b9ec3781a42ac7", func := "semblance/semblancelaw60.SuiteOf", spec := "suiteOf", unfollowed := true, recurses := true, plainKeys := false, apart := false, narrowed := true }
def SuiteOfUptoSaid : Prop := suiteOfUptoRow.holds Try.pinned (OpenSpec.upto suiteOfSpec)

/-- 'semblancelaw60.SuiteTells', WHERE WHAT IT READS IS OF BULK AT MOST 1048576: true; the input reads as it did. -/
def suiteTellsUptoRow : OpenClaim := { program := "ytcjbghmhdefdiaa", sum := "7af58e0251a0a1cc56abb5f29cfc29fe9638e11f6a48e762a3b9ec3781a42ac7", func := "semblance/semblancelaw60.SuiteTells", spec := "suiteTells", unfollowed := true, recurses := true, plainKeys := false, apart := false, narrowed := true }
def SuiteTellsUptoSaid : Prop := suiteTellsUptoRow.holds Try.pinned (OpenSpec.upto suiteTellsSpec)

/-- 'semblancelaw52.DeadOf', WHERE WHAT IT READS IS OF BULK AT MOST 1048576: true; the input reads as it did. -/
def deadOfUptoRow : OpenClaim := { program := "ytcjbghmhdefdiaa", sum := "7af58e0251a0a1cc56abb5f29cfc29fe9638e11f6a48e762a3b9ec3781a42ac7", func := "semblance/semblancelaw52.DeadOf", spec := "deadOf", unfollowed := true, recurses := true, plainKeys := false, apart := false, narrowed := true }
def DeadOfUptoSaid : Prop := deadOfUptoRow.holds Try.pinned (OpenSpec.upto deadOfSpec)

/-- 'semblancelaw51.RelabelOf', WHERE WHAT IT READS IS OF BULK AT MOST 1048576: true; the input reads as it did. -/
def relabelOfUptoRow : OpenClaim := { program := "ytcjbghmhdefdiaa", sum := "7af58e0251a0a1cc56abb5f29cfc29fe9638e11f6a48e762a3b9ec3781a42ac7", func := "semblance/semblancelaw51.RelabelOf", spec := "relabelOf", unfollowed := true, recurses := true, plainKeys := false, apart := false, narrowed := true }
def RelabelOfUptoSaid : Prop := relabelOfUptoRow.holds Try.pinned (OpenSpec.upto relabelOfSpec)

/-- 'semblancelaw50.ProductOf', WHERE WHAT IT READS IS OF BULK AT MOST 1048576: true; the input reads as it did. -/
def productOfUptoRow : OpenClaim := { program := "ytcjbghmhdefdiaa", sum := "7af58e0251a0a1cc56abb5f29cfc29fe9638e11f6a48e762a3b9ec3781a42ac7", func := "semblance/semblancelaw50.ProductOf", spec := "productOf", unfollowed := true, recurses := true, plainKeys := false, apart := false, narrowed := true }
def ProductOfUptoSaid : Prop := productOfUptoRow.holds Try.pinned (OpenSpec.upto productOfSpec)

/-- 'semblancelaw50.ProductFull', WHERE WHAT IT READS IS OF BULK AT MOST 1048576: true; the input reads as it did. -/
def productFullUptoRow : OpenClaim := { program := "ytcjbghmhdefdiaa", sum := "7af58e0251a0a1cc56abb5f29cfc29fe9638e11f6a48e762a3b9ec3781a42ac7", func := "semblance/semblancelaw50.ProductFull", spec := "productFull", unfollowed := true, recurses := true, plainKeys := false, apart := false, narrowed := true }
def ProductFullUptoSaid : Prop := productFullUptoRow.holds Try.pinned (OpenSpec.upto productFullSpec)

/-- 'semblancelaw26.LtsChecks', WHERE WHAT IT READS IS OF BULK AT MOST 1048576: true; the input reads as it did. -/
def ltsChecksUptoRow : OpenClaim := { program := "ytcjbghmhdefdiaa", sum := "7af58e0251a0a1cc56abb5f29cfc29fe9638e11f6a48e762a3b9ec3781a42ac7", func := "semblance/semblancelaw26.LtsChecks", spec := "ltsChecks", unfollowed := true, recurses := true, plainKeys := false, apart := false, narrowed := true }
def LtsChecksUptoSaid : Prop := ltsChecksUptoRow.holds Try.pinned (OpenSpec.upto ltsChecksSpec)

/-- 'semblancelaw26.LtsTells', WHERE WHAT IT READS IS OF BULK AT MOST 1048576: true; the input reads as it did. -/
def ltsTellsUptoRow : OpenClaim := { program := "ytcjbghmhdefdiaa", sum := "7af58e0251a0a1cc56abb5f29cfc29fe9638e11f6a48e762a3b9ec3781a42ac7", func := "semblance/semblancelaw26.LtsTells", spec := "ltsTells", unfollowed := true, recurses := true, plainKeys := false, apart := false, narrowed := true }
def LtsTellsUptoSaid : Prop := ltsTellsUptoRow.holds Try.pinned (OpenSpec.upto ltsTellsSpec)

/-- 'semblancelaw26.LtsReached', WHERE WHAT IT READS IS OF BULK AT MOST 1048576: true; the input reads as it did. -/
def ltsReachedUptoRow : OpenClaim := { program := "ytcjbghmhdefdiaa", sum := "7af58e0251a0a1cc56abb5f29cfc29fe9638e11f6a48e762a3b9ec3781a42ac7", func := "semblance/semblancelaw26.LtsReached", spec := "ltsReached", unfollowed := true, recurses := true, plainKeys := false, apart := false, narrowed := true }
def LtsReachedUptoSaid : Prop := ltsReachedUptoRow.holds Try.pinned (OpenSpec.upto ltsReachedSpec)

/-- 'semblancelaw36.QuotOf', WHERE WHAT IT READS IS OF BULK AT MOST 1048576: true; the input reads as it did. -/
def quotOfUptoRow : OpenClaim := { program := "ytcjbghmhdefdiaa", sum := "7af58e0251a0a1cc56abb5f29cfc29fe9638e11f6a48e762a3b9ec3781a42ac7", func := "semblance/semblancelaw36.QuotOf", spec := "quotOf", unfollowed := true, recurses := true, plainKeys := false, apart := false, narrowed := true }
def QuotOfUptoSaid : Prop := quotOfUptoRow.holds Try.pinned (OpenSpec.upto quotOfSpec)

/-- 'semblancelaw36.QuotLeast', WHERE WHAT IT READS IS OF BULK AT MOST 1048576: true; the input reads as it did. -/
def quotLeastUptoRow : OpenClaim := { program := "ytcjbghmhdefdiaa", sum := "7af58e0251a0a1cc56abb5f29cfc29fe9638e11f6a48e762a3b9ec3781a42ac7", func := "semblance/semblancelaw36.QuotLeast", spec := "quotLeast", unfollowed := true, recurses := true, plainKeys := false, apart := false, narrowed := true }
def QuotLeastUptoSaid : Prop := quotLeastUptoRow.holds Try.pinned (OpenSpec.upto quotLeastSpec)

end Rows
end Go.Proofs.Ytcjbghmhdefdiaa
