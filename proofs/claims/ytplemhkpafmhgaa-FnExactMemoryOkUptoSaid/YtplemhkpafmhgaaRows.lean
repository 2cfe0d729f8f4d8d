/-
  No cell of these rows narrows 'for every input' (looked for: loops, veiled, ifaces, maps, wideKeys, modest, calm, conditions, laid).
  DERIVED. THE GIVEN ROWS OF THIS SEAT. 12 by the template 'for every input the law returns true; each argument reads behind the call as it read before'; 0 by the template 'total and deterministic' (their statements: YtplemhkpafmhgaaTotals.lean).
  GIVEN WITH THE SEED: the statements are not yours to turn. If you find one false, say at which input.
  Laid BY PROGRAM, IN A SANDBOX (cutbox-rows.mjs): the forced cells as the released guide's own fill.sh prints them over the translation a1a27c731392189e… (all of the seat's roots in one cut). By AI agents, Wed Nov 11 2026. No macro, syntax, notation, axiom, sorry.
-/
import Derived.Test.YtplemhkpafmhgaaChecked
import GoSem.Claim
import GoSem.ClaimJoined
import GoSem.ClaimMapViews
import Derived.JoinedTies
import Derived.KernelRfl
namespace Go.Proofs.Ytplemhkpafmhgaa
/- THE CELL 'sum', in the pinned program and in every row, IS THE sha256 OF THE DUMP (.gsa) THAT YtplemhkpafmhgaaProg.lean LOADS. Nothing in Lean hashes anything: it is a label: what it is worth is what the hold of that sum in a sandbox is worth. -/
noncomputable def Try.pinned : Pinned := { name := "ytplemhkpafmhgaa", sum := "a1a27c731392189e1fc90fa5036d57b07710503f7ab78cb0b2a5bba8e1e0b328", checked := Try.checked }
namespace Rows
def none {H : Type} : Left H := { results := [], args := [] }

/-- 'laws.FnExactTypeOk': WHATEVER THE INPUT: true; the input reads as it did. -/
def fnExactTypeOkSpec : ChangeSpec := { name := "fnExactTypeOk", fn := fun _ => fun
  | [d1, d2] => { results := [.lit (.bool true)], args := [d1, d2] }
  | _ => none }
def fnExactTypeOkRow : OpenClaim := { program := "ytplemhkpafmhgaa", sum := "a1a27c731392189e1fc90fa5036d57b07710503f7ab78cb0b2a5bba8e1e0b328", func := "loop.example/g00283/laws.FnExactTypeOk", spec := "fnExactTypeOk", apart := false }
def FnExactTypeOkSaid : Prop := fnExactTypeOkRow.holds Try.pinned (OpenSpec.ofChange fnExactTypeOkSpec)

/-- ITS FALSE NEIGHBOUR: 'it returns false'. Refute it at one input. -/
def fnExactTypeOkWrong : ChangeSpec := { name := "fnExactTypeOk", fn := fun _ => fun
  | [d1, d2] => { results := [.lit (.bool false)], args := [d1, d2] }
  | _ => none }
def FnExactTypeOkWrongFalsely : Prop := fnExactTypeOkRow.holds Try.pinned (OpenSpec.ofChange fnExactTypeOkWrong)

/-- 'laws.FnExactFieldOf': WHATEVER THE INPUT: true; the input reads as it did. -/
def fnExactFieldOfSpec : ChangeSpec := { name := "fnExactFieldOf", fn := fun _ => fun
  | [d1, d2, d3] => { results := [.lit (.bool true)], args := [d1, d2, d3] }
  | _ => none }
def fnExactFieldOfRow : OpenClaim := { program := "ytplemhkpafmhgaa", sum := "a1a27c731392189e1fc90fa5036d57b07710503f7ab78cb0b2a5bba8e1e0b328", func := "loop.example/g00283/laws.FnExactFieldOf", spec := "fnExactFieldOf", apart := false }
def FnExactFieldOfSaid : Prop := fnExactFieldOfRow.holds Try.pinned (OpenSpec.ofChange fnExactFieldOfSpec)

/-- ITS FALSE NEIGHBOUR: 'it returns false'. Refute it at one input. -/
def fnExactFieldOfWrong : ChangeSpec := { name := "fnExactFieldOf", fn := fun _ => fun
  | [d1, d2, d3] => { results := [.lit (.bool false)], args := [d1, d2, d3] }
  | _ => none }
def FnExactFieldOfWrongFalsely : Prop := fnExactFieldOfRow.holds Try.pinned (OpenSpec.ofChange fnExactFieldOfWrong)

/-- 'laws.FnExactSub': WHATEVER THE INPUT: true; the input reads as it did. -/
def fnExactSubSpec : ChangeSpec := { name := "fnExactSub", fn := fun _ => fun
  | [d1, d2, d3] => { results := [.lit (.bool true)], args := [d1, d2, d3] }
  | _ => none }
def fnExactSubRow : OpenClaim := { program := "ytplemhkpafmhgaa", sum := "a1a27c731392189e1fc90fa5036d57b07710503f7ab78cb0b2a5bba8e1e0b328", func := "loop.example/g00283/laws.FnExactSub", spec := "fnExactSub", apart := false }
def FnExactSubSaid : Prop := fnExactSubRow.holds Try.pinned (OpenSpec.ofChange fnExactSubSpec)

/-- ITS FALSE NEIGHBOUR: 'it returns false'. Refute it at one input. -/
def fnExactSubWrong : ChangeSpec := { name := "fnExactSub", fn := fun _ => fun
  | [d1, d2, d3] => { results := [.lit (.bool false)], args := [d1, d2, d3] }
  | _ => none }
def FnExactSubWrongFalsely : Prop := fnExactSubRow.holds Try.pinned (OpenSpec.ofChange fnExactSubWrong)

/-- 'laws.FnExactMethodOf': WHATEVER THE INPUT: true; the input reads as it did. -/
def fnExactMethodOfSpec : ChangeSpec := { name := "fnExactMethodOf", fn := fun _ => fun
  | [d1, d2, d3] => { results := [.lit (.bool true)], args := [d1, d2, d3] }
  | _ => none }
def fnExactMethodOfRow : OpenClaim := { program := "ytplemhkpafmhgaa", sum := "a1a27c731392189e1fc90fa5036d57b07710503f7ab78cb0b2a5bba8e1e0b328", func := "loop.example/g00283/laws.FnExactMethodOf", spec := "fnExactMethodOf", apart := false }
def FnExactMethodOfSaid : Prop := fnExactMethodOfRow.holds Try.pinned (OpenSpec.ofChange fnExactMethodOfSpec)

/-- ITS FALSE NEIGHBOUR: 'it returns false'. Refute it at one input. -/
def fnExactMethodOfWrong : ChangeSpec := { name := "fnExactMethodOf", fn := fun _ => fun
  | [d1, d2, d3] => { results := [.lit (.bool false)], args := [d1, d2, d3] }
  | _ => none }
def FnExactMethodOfWrongFalsely : Prop := fnExactMethodOfRow.holds Try.pinned (OpenSpec.ofChange fnExactMethodOfWrong)

/-- 'laws.FnExactTypeOf': WHATEVER THE INPUT: true; the input reads as it did. -/
def fnExactTypeOfSpec : ChangeSpec := { name := "fnExactTypeOf", fn := fun _ => fun
  | [d1, d2] => { results := [.lit (.bool true)], args := [d1, d2] }
  | _ => none }
def fnExactTypeOfRow : OpenClaim := { program := "ytplemhkpafmhgaa", sum := "a1a27c731392189e1fc90fa5036d57b07710503f7ab78cb0b2a5bba8e1e0b328", func := "loop.example/g00283/laws.FnExactTypeOf", spec := "fnExactTypeOf", apart := false }
def FnExactTypeOfSaid : Prop := fnExactTypeOfRow.holds Try.pinned (OpenSpec.ofChange fnExactTypeOfSpec)

/-- ITS FALSE NEIGHBOUR: 'it returns false'. Refute it at one input. -/
def fnExactTypeOfWrong : ChangeSpec := { name := "fnExactTypeOf", fn := fun _ => fun
  | [d1, d2] => { results := [.lit (.bool false)], args := [d1, d2] }
  | _ => none }
def FnExactTypeOfWrongFalsely : Prop := fnExactTypeOfRow.holds Try.pinned (OpenSpec.ofChange fnExactTypeOfWrong)

/-- 'laws.FnExactFits': WHATEVER THE INPUT: true; the input reads as it did. -/
def fnExactFitsSpec : ChangeSpec := { name := "fnExactFits", fn := fun _ => fun
  | [d1, d2, d3] => { results := [.lit (.bool true)], args := [d1, d2, d3] }
  | _ => none }
def fnExactFitsRow : OpenClaim := { program := "ytplemhkpafmhgaa", sum := "a1a27c731392189e1fc90fa5036d57b07710503f7ab78cb0b2a5bba8e1e0b328", func := "loop.example/g00283/laws.FnExactFits", spec := "fnExactFits", apart := false }
def FnExactFitsSaid : Prop := fnExactFitsRow.holds Try.pinned (OpenSpec.ofChange fnExactFitsSpec)

/-- ITS FALSE NEIGHBOUR: 'it returns false'. Refute it at one input. -/
def fnExactFitsWrong : ChangeSpec := { name := "fnExactFits", fn := fun _ => fun
  | [d1, d2, d3] => { results := [.lit (.bool false)], args := [d1, d2, d3] }
  | _ => none }
def FnExactFitsWrongFalsely : Prop := fnExactFitsRow.holds Try.pinned (OpenSpec.ofChange fnExactFitsWrong)

/-- 'laws.FnExactJoin': WHATEVER THE INPUT: true; the input reads as it did. -/
def fnExactJoinSpec : ChangeSpec := { name := "fnExactJoin", fn := fun _ => fun
  | [d1, d2, d3] => { results := [.lit (.bool true)], args := [d1, d2, d3] }
  | _ => none }
def fnExactJoinRow : OpenClaim := { program := "ytplemhkpafmhgaa", sum := "a1a27c731392189e1fc90fa5036d57b07710503f7ab78cb0b2a5bba8e1e0b328", func := "loop.example/g00283/laws.FnExactJoin", spec := "fnExactJoin", apart := false }
def FnExactJoinSaid : Prop := fnExactJoinRow.holds Try.pinned (OpenSpec.ofChange fnExactJoinSpec)

/-- ITS FALSE NEIGHBOUR: 'it returns false'. Refute it at one input. -/
def fnExactJoinWrong : ChangeSpec := { name := "fnExactJoin", fn := fun _ => fun
  | [d1, d2, d3] => { results := [.lit (.bool false)], args := [d1, d2, d3] }
  | _ => none }
def FnExactJoinWrongFalsely : Prop := fnExactJoinRow.holds Try.pinned (OpenSpec.ofChange fnExactJoinWrong)

/-- 'laws.FnExactFlowOk': WHATEVER THE INPUT: true; the input reads as it did. -/
def fnExactFlowOkSpec : ChangeSpec := { name := "fnExactFlowOk", fn := fun _ => fun
  | [d1, d2] => { results := [.lit (.bool true)], args := [d1, d2] }
  | _ => none }
def fnExactFlowOkRow : OpenClaim := { program := "ytplemhkpafmhgaa", sum := "a1a27c731392189e1fc90fa5036d57b07710503f7ab78cb0b2a5bba8e1e0b328", func := "loop.example/g00283/laws.FnExactFlowOk", spec := "fnExactFlowOk", apart := false }
def FnExactFlowOkSaid : Prop := fnExactFlowOkRow.holds Try.pinned (OpenSpec.ofChange fnExactFlowOkSpec)

/-- ITS FALSE NEIGHBOUR: 'it returns false'. Refute it at one input. -/
def fnExactFlowOkWrong : ChangeSpec := { name := "fnExactFlowOk", fn := fun _ => fun
  | [d1, d2] => { results := [.lit (.bool false)], args := [d1, d2] }
  | _ => none }
def FnExactFlowOkWrongFalsely : Prop := fnExactFlowOkRow.holds Try.pinned (OpenSpec.ofChange fnExactFlowOkWrong)

/-- 'laws.FnExactFresh': WHATEVER THE INPUT: true; the input reads as it did. -/
def fnExactFreshSpec : ChangeSpec := { name := "fnExactFresh", fn := fun _ => fun
  | [d1, d2] => { results := [.lit (.bool true)], args := [d1, d2] }
  | _ => none }
def fnExactFreshRow : OpenClaim := { program := "ytplemhkpafmhgaa", sum := "a1a27c731392189e1fc90fa5036d57b07710503f7ab78cb0b2a5bba8e1e0b328", func := "loop.example/g00283/laws.FnExactFresh", spec := "fnExactFresh", apart := false }
def FnExactFreshSaid : Prop := fnExactFreshRow.holds Try.pinned (OpenSpec.ofChange fnExactFreshSpec)

/-- ITS FALSE NEIGHBOUR: 'it returns false'. Refute it at one input. -/
def fnExactFreshWrong : ChangeSpec := { name := "fnExactFresh", fn := fun _ => fun
  | [d1, d2] => { results := [.lit (.bool false)], args := [d1, d2] }
  | _ => none }
def FnExactFreshWrongFalsely : Prop := fnExactFreshRow.holds Try.pinned (OpenSpec.ofChange fnExactFreshWrong)

/-- 'laws.FnExactThreadOk': WHATEVER THE INPUT: true; the input reads as it did. -/
def fnExactThreadOkSpec : ChangeSpec := { name := "fnExactThreadOk", fn := fun _ => fun
  | [d1, d2] => { results := [.lit (.bool true)], args := [d1, d2] }
  | _ => none }
def fnExactThreadOkRow : OpenClaim := { program := "ytplemhkpafmhgaa", sum := "a1a27c731392189e1fc90fa5036d57b07710503f7ab78cb0b2a5bba8e1e0b328", func := "loop.example/g00283/laws.FnExactThreadOk", spec := "fnExactThreadOk", apart := false }
def FnExactThreadOkSaid : Prop := fnExactThreadOkRow.holds Try.pinned (OpenSpec.ofChange fnExactThreadOkSpec)

/-- ITS FALSE NEIGHBOUR: 'it returns false'. Refute it at one input. -/
def fnExactThreadOkWrong : ChangeSpec := { name := "fnExactThreadOk", fn := fun _ => fun
  | [d1, d2] => { results := [.lit (.bool false)], args := [d1, d2] }
  | _ => none }
def FnExactThreadOkWrongFalsely : Prop := fnExactThreadOkRow.holds Try.pinned (OpenSpec.ofChange fnExactThreadOkWrong)

/-- 'laws.FnExactMemoryOk': WHATEVER THE INPUT: true; the input reads as it did. -/
def fnExactMemoryOkSpec : ChangeSpec := { name := "fnExactMemoryOk", fn := fun _ => fun
  | [d1, d2] => { results := [.lit (.bool true)], args := [d1, d2] }
  | _ => none }
def fnExactMemoryOkRow : OpenClaim := { program := "ytplemhkpafmhgaa", sum := "a1a27c731392189e1fc90fa5036d57b07710503f7ab78cb0b2a5bba8e1e0b328", func := "loop.example/g00283/laws.FnExactMemoryOk", spec := "fnExactMemoryOk", apart := false }
def FnExactMemoryOkSaid : Prop := fnExactMemoryOkRow.holds Try.pinned (OpenSpec.ofChange fnExactMemoryOkSpec)

/-- ITS FALSE NEIGHBOUR: 'it returns false'. Refute it at one input. -/
def fnExactMemoryOkWrong : ChangeSpec := { name := "fnExactMemoryOk", fn := fun _ => fun
  | [d1, d2] => { results := [.lit (.bool false)], args := [d1, d2] }
  | _ => none }
def FnExactMemoryOkWrongFalsely : Prop := fnExactMemoryOkRow.holds Try.pinned (OpenSpec.ofChange fnExactMemoryOkWrong)

/-- 'laws.FnExactMeet': WHATEVER THE INPUT: true; the input reads as it did. -/
def fnExactMeetSpec : ChangeSpec := { name := "fnExactMeet", fn := fun _ => fun
  | [d1, d2, d3] => { results := [.lit (.bool true)], args := [d1, d2, d3] }
  | _ => none }
def fnExactMeetRow : OpenClaim := { program := "ytplemhkpafmhgaa", sum := "a1a27c731392189e1fc90fa5036d57b07710503f7ab78cb0b2a5bba8e1e0b328", func := "loop.example/g00283/laws.FnExactMeet", spec := "fnExactMeet", apart := false }
def FnExactMeetSaid : Prop := fnExactMeetRow.holds Try.pinned (OpenSpec.ofChange fnExactMeetSpec)

/-- ITS FALSE NEIGHBOUR: 'it returns false'. Refute it at one input. -/
def fnExactMeetWrong : ChangeSpec := { name := "fnExactMeet", fn := fun _ => fun
  | [d1, d2, d3] => { results := [.lit (.bool false)], args := [d1, d2, d3] }
  | _ => none }
def FnExactMeetWrongFalsely : Prop := fnExactMeetRow.holds Try.pinned (OpenSpec.ofChange fnExactMeetWrong)

/- THE SECOND FORM. 'bulk': how many values and letters a reading holds, each counted each time it is reached (what is shared counts as often as it is met; a slice's spare places count too). A statement '..UptoSaid' is the law's where the arguments, and the package variables that the reading takes, are together of bulk at most 1048576: NARROWER than '..Said'. Prove '..Said' where nothing that the law and all that it calls make is longer than what came in: it says more and counts as full. Else prove '..UptoSaid'. A law counts once. -/
mutual
def uptoBulk {H : Type} : DataW H → Nat
  | .lit (.string bytes) => bytes.length + 1
  | .lit _ => 1
  | .nil => 1
  | .ptr d => uptoBulk d + 1
  | .slice elems spare => uptoBulkAll elems + uptoBulkAll spare + 1
  | .agg parts => uptoBulkAll parts + 1
  | .iface _ d => uptoBulk d + 1
  | .map entries => uptoBulkEntries entries + 1
  | .held _ => 1
def uptoBulkAll {H : Type} : List (DataW H) → Nat
  | [] => 0
  | d :: r => uptoBulk d + uptoBulkAll r
def uptoBulkEntries {H : Type} : List (Lit × DataW H) → Nat
  | [] => 0
  | x :: r => uptoBulkEntry x + uptoBulkEntries r
def uptoBulkEntry {H : Type} : Lit × DataW H → Nat
  | (.string bytes, d) => bytes.length + uptoBulk d + 1
  | (_, d) => uptoBulk d + 1
 end
def uptoSmall : (H : Type) → List (DataW H) → Bool := fun _ ds => decide (uptoBulkAll ds ≤ 1048576)
def OpenSpec.upto (s : _root_.Go.ChangeSpec) : _root_.Go.OpenSpec := { _root_.Go.OpenSpec.ofChange s with cond := some uptoSmall }

/-- 'laws.FnExactTypeOk', WHERE WHAT IT READS IS OF BULK AT MOST 1048576: true; the input reads as it did. -/
def fnExactTypeOkUptoRow : OpenClaim := { program := "ytplemhkpafmhgaa", sum := "a1a27c731392189e1fc90fa5036d57b07710503f7ab78cb0b2a5bba8e1e0b328", func := "loop.example/g00283/laws.FnExactTypeOk", spec := "fnExactTypeOk", apart := false, narrowed := true }
def FnExactTypeOkUptoSaid : Prop := fnExactTypeOkUptoRow.holds Try.pinned (OpenSpec.upto fnExactTypeOkSpec)

/-- 'laws.FnExactFieldOf', WHERE WHAT IT READS IS OF BULK AT MOST 1048576: true; the input reads as it did. -/
def fnExactFieldOfUptoRow : OpenClaim := { program := "ytplemhkpafmhgaa", sum := "a1a27c731392189e1fc90fa5036d57b07710503f7ab78cb0b2a5bba8e1e0b328", func := "loop.example/g00283/laws.FnExactFieldOf", spec := "fnExactFieldOf", apart := false, narrowed := true }
def FnExactFieldOfUptoSaid : Prop := fnExactFieldOfUptoRow.holds Try.pinned (OpenSpec.upto fnExactFieldOfSpec)

/-- 'laws.FnExactSub', WHERE WHAT IT READS IS OF BULK AT MOST 1048576: true; the input reads as it did. -/
def fnExactSubUptoRow : OpenClaim := { program := "ytplemhkpafmhgaa", sum := "a1a27c731392189e1fc90fa5036d57b07710503f7ab78cb0b2a5bba8e1e0b328", func := "loop.example/g00283/laws.FnExactSub", spec := "fnExactSub", apart := false, narrowed := true }
def FnExactSubUptoSaid : Prop := fnExactSubUptoRow.holds Try.pinned (OpenSpec.upto fnExactSubSpec)

/-- 'laws.FnExactMethodOf', WHERE WHAT IT READS IS OF BULK AT MOST 1048576: true; the input reads as it did. -/
def fnExactMethodOfUptoRow : OpenClaim := { program := "ytplemhkpafmhgaa", sum := "a1a27c731392189e1fc90fa5036d57b07710503f7ab78cb0b2a5bba8e1e0b328", func := "loop.example/g00283/laws.FnExactMethodOf", spec := "fnExactMethodOf", apart := false, narrowed := true }
def FnExactMethodOfUptoSaid : Prop := fnExactMethodOfUptoRow.holds Try.pinned (OpenSpec.upto fnExactMethodOfSpec)

/-- 'laws.FnExactTypeOf', WHERE WHAT IT READS IS OF BULK AT MOST 1048576: true; the input reads as it did. -/
def fnExactTypeOfUptoRow : OpenClaim := { program := "ytplemhkpafmhgaa", sum := "a1a27c731392189e1fc90fa5036d57b07710503f7ab78cb0b2a5bba8e1e0b328", func := "loop.example/g00283/laws.FnExactTypeOf", spec := "fnExactTypeOf", apart := false, narrowed := true }
def FnExactTypeOfUptoSaid : Prop := fnExactTypeOfUptoRow.holds Try.pinned (OpenSpec.upto fnExactTypeOfSpec)

/-- 'laws.FnExactFits', WHERE WHAT IT READS IS OF BULK AT MOST 1048576: true; the input reads as it did. -/
def fnExactFitsUptoRow : OpenClaim := { program := "ytplemhkpafmhgaa", sum := "a1a27c731392189e1fc90fa5036d57b07710503f7ab78cb0b2a5bba8e1e0b328", func := "loop.example/g00283/laws.FnExactFits", spec := "fnExactFits", apart := false, narrowed := true }
def FnExactFitsUptoSaid : Prop := fnExactFitsUptoRow.holds Try.pinned (OpenSpec.upto fnExactFitsSpec)

/-- 'laws.FnExactJoin', WHERE WHAT IT READS IS OF BULK AT MOST 1048576: true; the input reads as it did. -/
def fnExactJoinUptoRow : OpenClaim := { program := "ytplemhkpafmhgaa", sum := "a1a27c731392189e1fc90fa5036d57b07710503f7ab78cb0b2a5bba8e1e0b328", func := "loop.example/g00283/laws.FnExactJoin", spec := "fnExactJoin", apart := false, narrowed := true }
def FnExactJoinUptoSaid : Prop := fnExactJoinUptoRow.holds Try.pinned (OpenSpec.upto fnExactJoinSpec)

/-- 'laws.FnExactFlowOk', WHERE WHAT IT READS IS OF BULK AT MOST 1048576: true; the input reads as it did. -/
def fnExactFlowOkUptoRow : OpenClaim := { program := "ytplemhkpafmhgaa", sum := "a1a27c731392189e1fc90fa5036d57b07710503f7ab78cb0b2a5bba8e1e0b328", func := "loop.example/g00283/laws.FnExactFlowOk", spec := "fnExactFlowOk", apart := false, narrowed := true }
def FnExactFlowOkUptoSaid : Prop := fnExactFlowOkUptoRow.holds Try.pinned (OpenSpec.upto fnExactFlowOkSpec)

/-- 'laws.FnExactFresh', WHERE WHAT IT READS IS OF BULK AT MOST 1048576: true; the input reads as it did. -/
def fnExactFreshUptoRow : OpenClaim := { program := "ytplemhkpafmhgaa", sum := "a1a27c731392189e1fc90fa5036d57b07710503f7ab78cb0b2a5bba8e1e0b328", func := "loop.example/g00283/laws.FnExactFresh", spec := "fnExactFresh", apart := false, narrowed := true }
def FnExactFreshUptoSaid : Prop := fnExactFreshUptoRow.holds Try.pinned (OpenSpec.upto fnExactFreshSpec)

/-- 'laws.FnExactThreadOk', WHERE WHAT IT READS IS OF BULK AT MOST 1048576: true; the input reads as it did. -/
def fnExactThreadOkUptoRow : OpenClaim := { program := "ytplemhkpafmhgaa", sum := "a1a27c731392189e1fc90fa5036d57b07710503f7ab78cb0b2a5bba8e1e0b328", func := "loop.example/g00283/laws.FnExactThreadOk", spec := "fnExactThreadOk", apart := false, narrowed := true }
def FnExactThreadOkUptoSaid : Prop := fnExactThreadOkUptoRow.holds Try.pinned (OpenSpec.upto fnExactThreadOkSpec)

/-- 'laws.FnExactMemoryOk', WHERE WHAT IT READS IS OF BULK AT MOST 1048576: true; the input reads as it did. -/
def fnExactMemoryOkUptoRow : OpenClaim := { program := "ytplemhkpafmhgaa", sum := "a1a27c731392189e1fc90fa5036d57b07710503f7ab78cb0b2a5bba8e1e0b328", func := "loop.example/g00283/laws.FnExactMemoryOk", spec := "fnExactMemoryOk", apart := false, narrowed := true }
def FnExactMemoryOkUptoSaid : Prop := fnExactMemoryOkUptoRow.holds Try.pinned (OpenSpec.upto fnExactMemoryOkSpec)

/-- 'laws.FnExactMeet', WHERE WHAT IT READS IS OF BULK AT MOST 1048576: true; the input reads as it did. -/
def fnExactMeetUptoRow : OpenClaim := { program := "ytplemhkpafmhgaa", sum := "a1a27c731392189e1fc90fa5036d57b07710503f7ab78cb0b2a5bba8e1e0b328", func := "loop.example/g00283/laws.FnExactMeet", spec := "fnExactMeet", apart := false, narrowed := true }
def FnExactMeetUptoSaid : Prop := fnExactMeetUptoRow.holds Try.pinned (OpenSpec.upto fnExactMeetSpec)

end Rows
end Go.Proofs.Ytplemhkpafmhgaa
