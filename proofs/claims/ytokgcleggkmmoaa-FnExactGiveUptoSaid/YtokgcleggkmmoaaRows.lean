/-
  No cell of these rows narrows 'for every input' (looked for: loops, veiled, ifaces, maps, wideKeys, modest, calm, conditions, laid).
  DERIVED. THE GIVEN ROWS OF THIS SEAT. 11 by the template 'for every input the law returns true; each argument reads behind the call as it read before'; 0 by the template 'total and deterministic' (their statements: YtokgcleggkmmoaaTotals.lean).
  GIVEN WITH THE SEED: the statements are not yours to turn. If you find one false, say at which input.
  Laid BY PROGRAM, IN A SANDBOX (cutbox-rows.mjs): the forced cells as the released guide's own fill.sh prints them over the translation ad37886487b55e5d… (all of the seat's roots in one cut). By AI agents, Wed Nov 11 2026. No macro, syntax, notation, axiom, sorry.
-/
import Derived.Test.YtokgcleggkmmoaaChecked
import GoSem.Claim
import GoSem.ClaimJoined
import GoSem.ClaimMapViews
import Derived.JoinedTies
import Derived.KernelRfl
namespace Go.Proofs.Ytokgcleggkmmoaa
/- THE CELL 'sum', in the pinned program and in every row, IS THE sha256 OF THE DUMP (.gsa) THAT YtokgcleggkmmoaaProg.lean LOADS. Nothing in Lean hashes anything: it is a label: what it is worth is what the hold of that sum in a sandbox is worth. -/
noncomputable def Try.pinned : Pinned := { name := "ytokgcleggkmmoaa", sum := "ad37886487b55e5dcbca427a3f8d2656d0124a5b135f155354342d576b27481f", checked := Try.checked }
namespace Rows
def none {H : Type} : Left H := { results := [], args := [] }

/-- 'laws.FnExactCount': WHATEVER THE INPUT: true; the input reads as it did. -/
def fnExactCountSpec : ChangeSpec := { name := "fnExactCount", fn := fun _ => fun
  | [d1, d2] => { results := [.lit (.bool true)], args := [d1, d2] }
  | _ => none }
def fnExactCountRow : OpenClaim := { program := "ytokgcleggkmmoaa", sum := "ad37886487b55e5dcbca427a3f8d2656d0124a5b135f155354342d576b27481f", func := "loop.example/g00283/laws.FnExactCount", spec := "fnExactCount", apart := false }
def FnExactCountSaid : Prop := fnExactCountRow.holds Try.pinned (OpenSpec.ofChange fnExactCountSpec)

/-- ITS FALSE NEIGHBOUR: 'it returns false'. Refute it at one input. -/
def fnExactCountWrong : ChangeSpec := { name := "fnExactCount", fn := fun _ => fun
  | [d1, d2] => { results := [.lit (.bool false)], args := [d1, d2] }
  | _ => none }
def FnExactCountWrongFalsely : Prop := fnExactCountRow.holds Try.pinned (OpenSpec.ofChange fnExactCountWrong)

/-- 'laws.FnExactClockOk': WHATEVER THE INPUT: true; the input reads as it did. -/
def fnExactClockOkSpec : ChangeSpec := { name := "fnExactClockOk", fn := fun _ => fun
  | [d] => { results := [.lit (.bool true)], args := [d] }
  | _ => none }
def fnExactClockOkRow : OpenClaim := { program := "ytokgcleggkmmoaa", sum := "ad37886487b55e5dcbca427a3f8d2656d0124a5b135f155354342d576b27481f", func := "loop.example/g00283/laws.FnExactClockOk", spec := "fnExactClockOk", apart := false }
def FnExactClockOkSaid : Prop := fnExactClockOkRow.holds Try.pinned (OpenSpec.ofChange fnExactClockOkSpec)

/-- ITS FALSE NEIGHBOUR: 'it returns false'. Refute it at one input. -/
def fnExactClockOkWrong : ChangeSpec := { name := "fnExactClockOk", fn := fun _ => fun
  | [d] => { results := [.lit (.bool false)], args := [d] }
  | _ => none }
def FnExactClockOkWrongFalsely : Prop := fnExactClockOkRow.holds Try.pinned (OpenSpec.ofChange fnExactClockOkWrong)

/-- 'laws.FnExactKnows': WHATEVER THE INPUT: true; the input reads as it did. -/
def fnExactKnowsSpec : ChangeSpec := { name := "fnExactKnows", fn := fun _ => fun
  | [d1, d2] => { results := [.lit (.bool true)], args := [d1, d2] }
  | _ => none }
def fnExactKnowsRow : OpenClaim := { program := "ytokgcleggkmmoaa", sum := "ad37886487b55e5dcbca427a3f8d2656d0124a5b135f155354342d576b27481f", func := "loop.example/g00283/laws.FnExactKnows", spec := "fnExactKnows", apart := false }
def FnExactKnowsSaid : Prop := fnExactKnowsRow.holds Try.pinned (OpenSpec.ofChange fnExactKnowsSpec)

/-- ITS FALSE NEIGHBOUR: 'it returns false'. Refute it at one input. -/
def fnExactKnowsWrong : ChangeSpec := { name := "fnExactKnows", fn := fun _ => fun
  | [d1, d2] => { results := [.lit (.bool false)], args := [d1, d2] }
  | _ => none }
def FnExactKnowsWrongFalsely : Prop := fnExactKnowsRow.holds Try.pinned (OpenSpec.ofChange fnExactKnowsWrong)

/-- 'laws.FnExactJoin2': WHATEVER THE INPUT: true; the input reads as it did. -/
def fnExactJoin2Spec : ChangeSpec := { name := "fnExactJoin2", fn := fun _ => fun
  | [d1, d2] => { results := [.lit (.bool true)], args := [d1, d2] }
  | _ => none }
def fnExactJoin2Row : OpenClaim := { program := "ytokgcleggkmmoaa", sum := "ad37886487b55e5dcbca427a3f8d2656d0124a5b135f155354342d576b27481f", func := "loop.example/g00283/laws.FnExactJoin2", spec := "fnExactJoin2", apart := false }
def FnExactJoin2Said : Prop := fnExactJoin2Row.holds Try.pinned (OpenSpec.ofChange fnExactJoin2Spec)

/-- ITS FALSE NEIGHBOUR: 'it returns false'. Refute it at one input. -/
def fnExactJoin2Wrong : ChangeSpec := { name := "fnExactJoin2", fn := fun _ => fun
  | [d1, d2] => { results := [.lit (.bool false)], args := [d1, d2] }
  | _ => none }
def FnExactJoin2WrongFalsely : Prop := fnExactJoin2Row.holds Try.pinned (OpenSpec.ofChange fnExactJoin2Wrong)

/-- 'laws.FnExactTick': WHATEVER THE INPUT: true; the input reads as it did. -/
def fnExactTickSpec : ChangeSpec := { name := "fnExactTick", fn := fun _ => fun
  | [d1, d2] => { results := [.lit (.bool true)], args := [d1, d2] }
  | _ => none }
def fnExactTickRow : OpenClaim := { program := "ytokgcleggkmmoaa", sum := "ad37886487b55e5dcbca427a3f8d2656d0124a5b135f155354342d576b27481f", func := "loop.example/g00283/laws.FnExactTick", spec := "fnExactTick", apart := false }
def FnExactTickSaid : Prop := fnExactTickRow.holds Try.pinned (OpenSpec.ofChange fnExactTickSpec)

/-- ITS FALSE NEIGHBOUR: 'it returns false'. Refute it at one input. -/
def fnExactTickWrong : ChangeSpec := { name := "fnExactTick", fn := fun _ => fun
  | [d1, d2] => { results := [.lit (.bool false)], args := [d1, d2] }
  | _ => none }
def FnExactTickWrongFalsely : Prop := fnExactTickRow.holds Try.pinned (OpenSpec.ofChange fnExactTickWrong)

/-- 'laws.FnExactRead': WHATEVER THE INPUT: true; the input reads as it did. -/
def fnExactReadSpec : ChangeSpec := { name := "fnExactRead", fn := fun _ => fun
  | [d1, d2, d3] => { results := [.lit (.bool true)], args := [d1, d2, d3] }
  | _ => none }
def fnExactReadRow : OpenClaim := { program := "ytokgcleggkmmoaa", sum := "ad37886487b55e5dcbca427a3f8d2656d0124a5b135f155354342d576b27481f", func := "loop.example/g00283/laws.FnExactRead", spec := "fnExactRead", apart := false }
def FnExactReadSaid : Prop := fnExactReadRow.holds Try.pinned (OpenSpec.ofChange fnExactReadSpec)

/-- ITS FALSE NEIGHBOUR: 'it returns false'. Refute it at one input. -/
def fnExactReadWrong : ChangeSpec := { name := "fnExactRead", fn := fun _ => fun
  | [d1, d2, d3] => { results := [.lit (.bool false)], args := [d1, d2, d3] }
  | _ => none }
def FnExactReadWrongFalsely : Prop := fnExactReadRow.holds Try.pinned (OpenSpec.ofChange fnExactReadWrong)

/-- 'laws.FnExactGive': WHATEVER THE INPUT: true; the input reads as it did. -/
def fnExactGiveSpec : ChangeSpec := { name := "fnExactGive", fn := fun _ => fun
  | [d1, d2] => { results := [.lit (.bool true)], args := [d1, d2] }
  | _ => none }
def fnExactGiveRow : OpenClaim := { program := "ytokgcleggkmmoaa", sum := "ad37886487b55e5dcbca427a3f8d2656d0124a5b135f155354342d576b27481f", func := "loop.example/g00283/laws.FnExactGive", spec := "fnExactGive", apart := false }
def FnExactGiveSaid : Prop := fnExactGiveRow.holds Try.pinned (OpenSpec.ofChange fnExactGiveSpec)

/-- ITS FALSE NEIGHBOUR: 'it returns false'. Refute it at one input. -/
def fnExactGiveWrong : ChangeSpec := { name := "fnExactGive", fn := fun _ => fun
  | [d1, d2] => { results := [.lit (.bool false)], args := [d1, d2] }
  | _ => none }
def FnExactGiveWrongFalsely : Prop := fnExactGiveRow.holds Try.pinned (OpenSpec.ofChange fnExactGiveWrong)

/-- 'laws.FnExactFind': WHATEVER THE INPUT: true; the input reads as it did. -/
def fnExactFindSpec : ChangeSpec := { name := "fnExactFind", fn := fun _ => fun
  | [d1, d2] => { results := [.lit (.bool true)], args := [d1, d2] }
  | _ => none }
def fnExactFindRow : OpenClaim := { program := "ytokgcleggkmmoaa", sum := "ad37886487b55e5dcbca427a3f8d2656d0124a5b135f155354342d576b27481f", func := "loop.example/g00283/laws.FnExactFind", spec := "fnExactFind", apart := false }
def FnExactFindSaid : Prop := fnExactFindRow.holds Try.pinned (OpenSpec.ofChange fnExactFindSpec)

/-- ITS FALSE NEIGHBOUR: 'it returns false'. Refute it at one input. -/
def fnExactFindWrong : ChangeSpec := { name := "fnExactFind", fn := fun _ => fun
  | [d1, d2] => { results := [.lit (.bool false)], args := [d1, d2] }
  | _ => none }
def FnExactFindWrongFalsely : Prop := fnExactFindRow.holds Try.pinned (OpenSpec.ofChange fnExactFindWrong)

/-- 'laws.FnExactWrite': WHATEVER THE INPUT: true; the input reads as it did. -/
def fnExactWriteSpec : ChangeSpec := { name := "fnExactWrite", fn := fun _ => fun
  | [d1, d2, d3, d4] => { results := [.lit (.bool true)], args := [d1, d2, d3, d4] }
  | _ => none }
def fnExactWriteRow : OpenClaim := { program := "ytokgcleggkmmoaa", sum := "ad37886487b55e5dcbca427a3f8d2656d0124a5b135f155354342d576b27481f", func := "loop.example/g00283/laws.FnExactWrite", spec := "fnExactWrite", apart := false }
def FnExactWriteSaid : Prop := fnExactWriteRow.holds Try.pinned (OpenSpec.ofChange fnExactWriteSpec)

/-- ITS FALSE NEIGHBOUR: 'it returns false'. Refute it at one input. -/
def fnExactWriteWrong : ChangeSpec := { name := "fnExactWrite", fn := fun _ => fun
  | [d1, d2, d3, d4] => { results := [.lit (.bool false)], args := [d1, d2, d3, d4] }
  | _ => none }
def FnExactWriteWrongFalsely : Prop := fnExactWriteRow.holds Try.pinned (OpenSpec.ofChange fnExactWriteWrong)

/-- 'laws.FnExactHold': WHATEVER THE INPUT: true; the input reads as it did. -/
def fnExactHoldSpec : ChangeSpec := { name := "fnExactHold", fn := fun _ => fun
  | [d1, d2, d3] => { results := [.lit (.bool true)], args := [d1, d2, d3] }
  | _ => none }
def fnExactHoldRow : OpenClaim := { program := "ytokgcleggkmmoaa", sum := "ad37886487b55e5dcbca427a3f8d2656d0124a5b135f155354342d576b27481f", func := "loop.example/g00283/laws.FnExactHold", spec := "fnExactHold", apart := false }
def FnExactHoldSaid : Prop := fnExactHoldRow.holds Try.pinned (OpenSpec.ofChange fnExactHoldSpec)

/-- ITS FALSE NEIGHBOUR: 'it returns false'. Refute it at one input. -/
def fnExactHoldWrong : ChangeSpec := { name := "fnExactHold", fn := fun _ => fun
  | [d1, d2, d3] => { results := [.lit (.bool false)], args := [d1, d2, d3] }
  | _ => none }
def FnExactHoldWrongFalsely : Prop := fnExactHoldRow.holds Try.pinned (OpenSpec.ofChange fnExactHoldWrong)

/-- 'laws.FnExactKindOf': WHATEVER THE INPUT: true; the input reads as it did. -/
def fnExactKindOfSpec : ChangeSpec := { name := "fnExactKindOf", fn := fun _ => fun
  | [d1, d2] => { results := [.lit (.bool true)], args := [d1, d2] }
  | _ => none }
def fnExactKindOfRow : OpenClaim := { program := "ytokgcleggkmmoaa", sum := "ad37886487b55e5dcbca427a3f8d2656d0124a5b135f155354342d576b27481f", func := "loop.example/g00283/laws.FnExactKindOf", spec := "fnExactKindOf", apart := false }
def FnExactKindOfSaid : Prop := fnExactKindOfRow.holds Try.pinned (OpenSpec.ofChange fnExactKindOfSpec)

/-- ITS FALSE NEIGHBOUR: 'it returns false'. Refute it at one input. -/
def fnExactKindOfWrong : ChangeSpec := { name := "fnExactKindOf", fn := fun _ => fun
  | [d1, d2] => { results := [.lit (.bool false)], args := [d1, d2] }
  | _ => none }
def FnExactKindOfWrongFalsely : Prop := fnExactKindOfRow.holds Try.pinned (OpenSpec.ofChange fnExactKindOfWrong)

/- THE SECOND FORM. 'bulk': how many values and letters a reading holds, each counted each time it is reached (what is shared counts as often as it is met; a slice's spare places count too). A statement '..UptoSaid' is the law's where the arguments, and the package variables that the reading takes, are together of bulk at most 1048576: NARROWER than '..Said'. Prove '..Said' where nothing that the law and all that it calls make is longer than what came in: it says more and counts as full. Else prove '..UptoSaid'. A law counts once. -/
mutual
def uptoBulk {H : Type} : DataW H → Nat
  | .lit (.string bytes) => bytes.length + 1
  | .lit _ => 1
  | .nil => 1
  | .ptr d => uptoBulk d + 1
  | .slice elems spare => uptoBulkAll elems + uptoBulkAll spare + 1
  | .agg parts => uptoBulkAll parts + 1
  | .iface _ d => uptoBulk d + 1
  | .map entries => uptoBulkEntries entries + 1
  | .held _ => 1
def uptoBulkAll {H : Type} : List (DataW H) → Nat
  | [] => 0
  | d :: r => uptoBulk d + uptoBulkAll r
def uptoBulkEntries {H : Type} : List (Lit × DataW H) → Nat
  | [] => 0
  | x :: r => uptoBulkEntry x + uptoBulkEntries r
def uptoBulkEntry {H : Type} : Lit × DataW H → Nat
  | (.string bytes, d) => bytes.length + uptoBulk d + 1
  | (_, d) => uptoBulk d + 1
 end
def uptoSmall : (H : Type) → List (DataW H) → Bool := fun _ ds => decide (uptoBulkAll ds ≤ 1048576)
def OpenSpec.upto (s : _root_.Go.ChangeSpec) : _root_.Go.OpenSpec := { _root_.Go.OpenSpec.ofChange s with cond := some uptoSmall }

/-- 'laws.FnExactCount', WHERE WHAT IT READS IS OF BULK AT MOST 1048576: true; the input reads as it did. -/
def fnExactCountUptoRow : OpenClaim := { program := "ytokgcleggkmmoaa", sum := "ad37886487b55e5dcbca427a3f8d2656d0124a5b135f155354342d576b27481f", func := "loop.example/g00283/laws.FnExactCount", spec := "fnExactCount", apart := false, narrowed := true }
def FnExactCountUptoSaid : Prop := fnExactCountUptoRow.holds Try.pinned (OpenSpec.upto fnExactCountSpec)

/-- 'laws.FnExactClockOk', WHERE WHAT IT READS IS OF BULK AT MOST 1048576: true; the input reads as it did. -/
def fnExactClockOkUptoRow : OpenClaim := { program := "ytokgcleggkmmoaa", sum := "ad37886487b55e5dcbca427a3f8d2656d0124a5b135f155354342d576b27481f", func := "loop.example/g00283/laws.FnExactClockOk", spec := "fnExactClockOk", apart := false, narrowed := true }
def FnExactClockOkUptoSaid : Prop := fnExactClockOkUptoRow.holds Try.pinned (OpenSpec.upto fnExactClockOkSpec)

/-- 'laws.FnExactKnows', WHERE WHAT IT READS IS OF BULK AT MOST 1048576: true; the input reads as it did. -/
def fnExactKnowsUptoRow : OpenClaim := { program := "ytokgcleggkmmoaa", sum := "ad37886487b55e5dcbca427a3f8d2656d0124a5b135f155354342d576b27481f", func := "loop.example/g00283/laws.FnExactKnows", spec := "fnExactKnows", apart := false, narrowed := true }
def FnExactKnowsUptoSaid : Prop := fnExactKnowsUptoRow.holds Try.pinned (OpenSpec.upto fnExactKnowsSpec)

/-- 'laws.FnExactJoin2', WHERE WHAT IT READS IS OF BULK AT MOST 1048576: true; the input reads as it did. -/
def fnExactJoin2UptoRow : OpenClaim := { program := "ytokgcleggkmmoaa", sum := "ad37886487b55e5dcbca427a3f8d2656d0124a5b135f155354342d576b27481f", func := "loop.example/g00283/laws.FnExactJoin2", spec := "fnExactJoin2", apart := false, narrowed := true }
def FnExactJoin2UptoSaid : Prop := fnExactJoin2UptoRow.holds Try.pinned (OpenSpec.upto fnExactJoin2Spec)

/-- 'laws.FnExactTick', WHERE WHAT IT READS IS OF BULK AT MOST 1048576: true; the input reads as it did. -/
def fnExactTickUptoRow : OpenClaim := { program := "ytokgcleggkmmoaa", sum := "ad37886487b55e5dcbca427a3f8d2656d0124a5b135f155354342d576b27481f", func := "loop.example/g00283/laws.FnExactTick", spec := "fnExactTick", apart := false, narrowed := true }
def FnExactTickUptoSaid : Prop := fnExactTickUptoRow.holds Try.pinned (OpenSpec.upto fnExactTickSpec)

/-- 'laws.FnExactRead', WHERE WHAT IT READS IS OF BULK AT MOST 1048576: true; the input reads as it did. -/
def fnExactReadUptoRow : OpenClaim := { program := "ytokgcleggkmmoaa", sum := "ad37886487b55e5dcbca427a3f8d2656d0124a5b135f155354342d576b27481f", func := "loop.example/g00283/laws.FnExactRead", spec := "fnExactRead", apart := false, narrowed := true }
def FnExactReadUptoSaid : Prop := fnExactReadUptoRow.holds Try.pinned (OpenSpec.upto fnExactReadSpec)

/-- 'laws.FnExactGive', WHERE WHAT IT READS IS OF BULK AT MOST 1048576: true; the input reads as it did. -/
def fnExactGiveUptoRow : OpenClaim := { program := "ytokgcleggkmmoaa", sum := "ad37886487b55e5dcbca427a3f8d2656d0124a5b135f155354342d576b27481f", func := "loop.example/g00283/laws.FnExactGive", spec := "fnExactGive", apart := false, narrowed := true }
def FnExactGiveUptoSaid : Prop := fnExactGiveUptoRow.holds Try.pinned (OpenSpec.upto fnExactGiveSpec)

/-- 'laws.FnExactFind', WHERE WHAT IT READS IS OF BULK AT MOST 1048576: true; the input reads as it did. -/
def fnExactFindUptoRow : OpenClaim := { program := "ytokgcleggkmmoaa", sum := "ad37886487b55e5dcbca427a3f8d2656d0124a5b135f155354342d576b27481f", func := "loop.example/g00283/laws.FnExactFind", spec := "fnExactFind", apart := false, narrowed := true }
def FnExactFindUptoSaid : Prop := fnExactFindUptoRow.holds Try.pinned (OpenSpec.upto fnExactFindSpec)

/-- 'laws.FnExactWrite', WHERE WHAT IT READS IS OF BULK AT MOST 1048576: true; the input reads as it did. -/
def fnExactWriteUptoRow : OpenClaim := { program := "ytokgcleggkmmoaa", sum := "ad37886487b55e5dcbca427a3f8d2656d0124a5b135f155354342d576b27481f", func := "loop.example/g00283/laws.FnExactWrite", spec := "fnExactWrite", apart := false, narrowed := true }
def FnExactWriteUptoSaid : Prop := fnExactWriteUptoRow.holds Try.pinned (OpenSpec.upto fnExactWriteSpec)

/-- 'laws.FnExactHold', WHERE WHAT IT READS IS OF BULK AT MOST 1048576: true; the input reads as it did. -/
def fnExactHoldUptoRow : OpenClaim := { program := "ytokgcleggkmmoaa", sum := "ad37886487b55e5dcbca427a3f8d2656d0124a5b135f155354342d576b27481f", func := "loop.example/g00283/laws.FnExactHold", spec := "fnExactHold", apart := false, narrowed := true }
def FnExactHoldUptoSaid : Prop := fnExactHoldUptoRow.holds Try.pinned (OpenSpec.upto fnExactHoldSpec)

/-- 'laws.FnExactKindOf', WHERE WHAT IT READS IS OF BULK AT MOST 1048576: true; the input reads as it did. -/
def fnExactKindOfUptoRow : OpenClaim := { program := "ytokgcleggkmmoaa", sum := "ad37886487b55e5dcbca427a3f8d2656d0124a5b135f155354342d576b27481f", func := "loop.example/g00283/laws.FnExactKindOf", spec := "fnExactKindOf", apart := false, narrowed := true }
def FnExactKindOfUptoSaid : Prop := fnExactKindOfUptoRow.holds Try.pinned (OpenSpec.upto fnExactKindOfSpec)

end Rows
end Go.Proofs.Ytokgcleggkmmoaa
