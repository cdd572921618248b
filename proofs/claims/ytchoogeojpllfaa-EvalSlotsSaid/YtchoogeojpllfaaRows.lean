/-
  No cell of these rows narrows 'for every input' (looked for: loops, veiled, ifaces, maps, wideKeys, modest, calm, conditions, laid).
  DERIVED. THE GIVEN ROWS OF THIS SEAT. 8 by the template 'for every input the law returns true; each argument reads behind the call as it read before'; 0 by the template 'total and deterministic' (their statements: YtchoogeojpllfaaTotals.lean).
  GIVEN WITH THE SEED: the statements are not yours to turn. If you find one false, say at which input.
  Laid BY PROGRAM, IN A SANDBOX (cutbox-rows.mjs): the forced cells as the released guide's own fill.sh prints them over the translation 85798b22a508cfa1… (all of the seat's roots in one cut). By AI agents, Wed Nov 11 2026. No macro, syntax, notation, axiom, sorry.
-/
import Derived.Test.YtchoogeojpllfaaChecked
import GoSem.Claim
import GoSem.ClaimJoined
import GoSem.ClaimMapViews
import Derived.JoinedTies
import Derived.KernelRfl
namespace Go.Proofs.Ytchoogeojpllfaa
/- THE CELL 'sum', in the pinned program and in every row, IS THE sha256 OF THE DUMP (.gsa) THAT YtchoogeojpllfaaProg.lean LOADS. Nothing in Lean hashes anything: it is a label: what it is worth is what the hold of that sum in a sandbox is worth. -/
noncomputable def Try.pinned : Pinned := { name := "ytchoogeojpllfaa", sum := "85798b22a508cfa100b1c11467538cec066ba8affae6ea56a607543810ba1693", checked := Try.checked }
namespace Rows
def none {H : Type} : Left H := { results := [], args := [] }

/-- 'calquelaw11.StepZero': WHATEVER THE INPUT: true; the input reads as it did. -/
def stepZeroSpec : ChangeSpec := { name := "stepZero", fn := fun _ => fun
  | [d1, d2, d3] => { results := [.lit (.bool true)], args := [d1, d2, d3] }
  | _ => none }
def stepZeroRow : OpenClaim := { program := "ytchoogeojpllfaa", sum := "85798b22a508cfa100b1c11467538cec066ba8affae6ea56a607543810ba1693", func := "calque/calquelaw11.StepZero", spec := "stepZero", inPlace := ["sync/atomic.LoadInt64", "sync/atomic.AddInt64"], unfollowed := true, recurses := true, apart := false }
def StepZeroSaid : Prop := stepZeroRow.holds Try.pinned (OpenSpec.ofChange stepZeroSpec)

/-- ITS FALSE NEIGHBOUR: 'it returns false'. Refute it at one input. -/
def stepZeroWrong : ChangeSpec := { name := "stepZero", fn := fun _ => fun
  | [d1, d2, d3] => { results := [.lit (.bool false)], args := [d1, d2, d3] }
  | _ => none }
def StepZeroWrongFalsely : Prop := stepZeroRow.holds Try.pinned (OpenSpec.ofChange stepZeroWrong)

/-- 'calquelaw11.StepJumps': WHATEVER THE INPUT: true; the input reads as it did. -/
def stepJumpsSpec : ChangeSpec := { name := "stepJumps", fn := fun _ => fun
  | [d1, d2, d3] => { results := [.lit (.bool true)], args := [d1, d2, d3] }
  | _ => none }
def stepJumpsRow : OpenClaim := { program := "ytchoogeojpllfaa", sum := "85798b22a508cfa100b1c11467538cec066ba8affae6ea56a607543810ba1693", func := "calque/calquelaw11.StepJumps", spec := "stepJumps", inPlace := ["sync/atomic.LoadInt64", "sync/atomic.AddInt64"], unfollowed := true, recurses := true, apart := false }
def StepJumpsSaid : Prop := stepJumpsRow.holds Try.pinned (OpenSpec.ofChange stepJumpsSpec)

/-- ITS FALSE NEIGHBOUR: 'it returns false'. Refute it at one input. -/
def stepJumpsWrong : ChangeSpec := { name := "stepJumps", fn := fun _ => fun
  | [d1, d2, d3] => { results := [.lit (.bool false)], args := [d1, d2, d3] }
  | _ => none }
def StepJumpsWrongFalsely : Prop := stepJumpsRow.holds Try.pinned (OpenSpec.ofChange stepJumpsWrong)

/-- 'calquelaw11.StepLinks': WHATEVER THE INPUT: true; the input reads as it did. -/
def stepLinksSpec : ChangeSpec := { name := "stepLinks", fn := fun _ => fun
  | [d1, d2, d3] => { results := [.lit (.bool true)], args := [d1, d2, d3] }
  | _ => none }
def stepLinksRow : OpenClaim := { program := "ytchoogeojpllfaa", sum := "85798b22a508cfa100b1c11467538cec066ba8affae6ea56a607543810ba1693", func := "calque/calquelaw11.StepLinks", spec := "stepLinks", inPlace := ["sync/atomic.LoadInt64", "sync/atomic.AddInt64"], unfollowed := true, recurses := true, apart := false }
def StepLinksSaid : Prop := stepLinksRow.holds Try.pinned (OpenSpec.ofChange stepLinksSpec)

/-- ITS FALSE NEIGHBOUR: 'it returns false'. Refute it at one input. -/
def stepLinksWrong : ChangeSpec := { name := "stepLinks", fn := fun _ => fun
  | [d1, d2, d3] => { results := [.lit (.bool false)], args := [d1, d2, d3] }
  | _ => none }
def StepLinksWrongFalsely : Prop := stepLinksRow.holds Try.pinned (OpenSpec.ofChange stepLinksWrong)

/-- 'calquelaw11.StepFaults': WHATEVER THE INPUT: true; the input reads as it did. -/
def stepFaultsSpec : ChangeSpec := { name := "stepFaults", fn := fun _ => fun
  | [d1, d2] => { results := [.lit (.bool true)], args := [d1, d2] }
  | _ => none }
def stepFaultsRow : OpenClaim := { program := "ytchoogeojpllfaa", sum := "85798b22a508cfa100b1c11467538cec066ba8affae6ea56a607543810ba1693", func := "calque/calquelaw11.StepFaults", spec := "stepFaults", inPlace := ["sync/atomic.LoadInt64", "sync/atomic.AddInt64"], unfollowed := true, recurses := true, apart := false }
def StepFaultsSaid : Prop := stepFaultsRow.holds Try.pinned (OpenSpec.ofChange stepFaultsSpec)

/-- ITS FALSE NEIGHBOUR: 'it returns false'. Refute it at one input. -/
def stepFaultsWrong : ChangeSpec := { name := "stepFaults", fn := fun _ => fun
  | [d1, d2] => { results := [.lit (.bool false)], args := [d1, d2] }
  | _ => none }
def StepFaultsWrongFalsely : Prop := stepFaultsRow.holds Try.pinned (OpenSpec.ofChange stepFaultsWrong)

/-- 'calquelaw13.RunLoops': WHATEVER THE INPUT: true; the input reads as it did. -/
def runLoopsSpec : ChangeSpec := { name := "runLoops", fn := fun _ => fun
  | [d1, d2] => { results := [.lit (.bool true)], args := [d1, d2] }
  | _ => none }
def runLoopsRow : OpenClaim := { program := "ytchoogeojpllfaa", sum := "85798b22a508cfa100b1c11467538cec066ba8affae6ea56a607543810ba1693", func := "calque/calquelaw13.RunLoops", spec := "runLoops", inPlace := ["sync/atomic.LoadInt64", "sync/atomic.AddInt64"], unfollowed := true, recurses := true, apart := false }
def RunLoopsSaid : Prop := runLoopsRow.holds Try.pinned (OpenSpec.ofChange runLoopsSpec)

/-- ITS FALSE NEIGHBOUR: 'it returns false'. Refute it at one input. -/
def runLoopsWrong : ChangeSpec := { name := "runLoops", fn := fun _ => fun
  | [d1, d2] => { results := [.lit (.bool false)], args := [d1, d2] }
  | _ => none }
def RunLoopsWrongFalsely : Prop := runLoopsRow.holds Try.pinned (OpenSpec.ofChange runLoopsWrong)

/-- 'calquelaw19.EvalStops': WHATEVER THE INPUT: true; the input reads as it did. -/
def evalStopsSpec : ChangeSpec := { name := "evalStops", fn := fun _ => fun
  | [d1, d2, d3] => { results := [.lit (.bool true)], args := [d1, d2, d3] }
  | _ => none }
def evalStopsRow : OpenClaim := { program := "ytchoogeojpllfaa", sum := "85798b22a508cfa100b1c11467538cec066ba8affae6ea56a607543810ba1693", func := "calque/calquelaw19.EvalStops", spec := "evalStops", inPlace := ["sync/atomic.LoadInt64", "sync/atomic.AddInt64"], unfollowed := true, recurses := true, apart := false }
def EvalStopsSaid : Prop := evalStopsRow.holds Try.pinned (OpenSpec.ofChange evalStopsSpec)

/-- ITS FALSE NEIGHBOUR: 'it returns false'. Refute it at one input. -/
def evalStopsWrong : ChangeSpec := { name := "evalStops", fn := fun _ => fun
  | [d1, d2, d3] => { results := [.lit (.bool false)], args := [d1, d2, d3] }
  | _ => none }
def EvalStopsWrongFalsely : Prop := evalStopsRow.holds Try.pinned (OpenSpec.ofChange evalStopsWrong)

/-- 'calquelaw19.EvalSlots': WHATEVER THE INPUT: true; the input reads as it did. -/
def evalSlotsSpec : ChangeSpec := { name := "evalSlots", fn := fun _ => fun
  | [d1, d2, d3] => { results := [.lit (.bool true)], args := [d1, d2, d3] }
  | _ => none }
def evalSlotsRow : OpenClaim := { program := "ytchoogeojpllfaa", sum := "85798b22a508cfa100b1c11467538cec066ba8affae6ea56a607543810ba1693", func := "calque/calquelaw19.EvalSlots", spec := "evalSlots", inPlace := ["sync/atomic.LoadInt64", "sync/atomic.AddInt64"], unfollowed := true, recurses := true, apart := false }
def EvalSlotsSaid : Prop := evalSlotsRow.holds Try.pinned (OpenSpec.ofChange evalSlotsSpec)

/-- ITS FALSE NEIGHBOUR: 'it returns false'. Refute it at one input. -/
def evalSlotsWrong : ChangeSpec := { name := "evalSlots", fn := fun _ => fun
  | [d1, d2, d3] => { results := [.lit (.bool false)], args := [d1, d2, d3] }
  | _ => none }
def EvalSlotsWrongFalsely : Prop := evalSlotsRow.holds Try.pinned (OpenSpec.ofChange evalSlotsWrong)

/-- 'calquelaw19.EvalDirty': WHATEVER THE INPUT: true; the input reads as it did. -/
def evalDirtySpec : ChangeSpec := { name := "evalDirty", fn := fun _ => fun
  | [d1, d2, d3] => { results := [.lit (.bool true)], args := [d1, d2, d3] }
  | _ => none }
def evalDirtyRow : OpenClaim := { program := "ytchoogeojpllfaa", sum := "85798b22a508cfa100b1c11467538cec066ba8affae6ea56a607543810ba1693", func := "calque/calquelaw19.EvalDirty", spec := "evalDirty", inPlace := ["sync/atomic.LoadInt64", "sync/atomic.AddInt64"], unfollowed := true, recurses := true, apart := false }
def EvalDirtySaid : Prop := evalDirtyRow.holds Try.pinned (OpenSpec.ofChange evalDirtySpec)

/-- ITS FALSE NEIGHBOUR: 'it returns false'. Refute it at one input. -/
def evalDirtyWrong : ChangeSpec := { name := "evalDirty", fn := fun _ => fun
  | [d1, d2, d3] => { results := [.lit (.bool false)], args := [d1, d2, d3] }
  | _ => none }
def EvalDirtyWrongFalsely : Prop := evalDirtyRow.holds Try.pinned (OpenSpec.ofChange evalDirtyWrong)

/- THE SECOND FORM. 'bulk': how many values and letters a reading holds, each counted each time it is reached (what is shared counts as often as it is met; a slice's spare places count too). A statement '..UptoSaid' is the law's where the arguments, and the package variables that the reading takes, are together of bulk at most 1048576: NARROWER than '..Said'. Prove '..Said' where nothing that the law and all that it calls make is longer than what came in: it says more and counts as full. Else prove '..UptoSaid'. A law counts once. -/
mutual
def uptoBulk {H : Type} : DataW H → Nat
  | .lit (.string bytes) => bytes.length + 1
  | .lit _ => 1
  | .nil => 1
  | .ptr d => uptoBulk d + 1
  | .slice elems spare => uptoBulkAll elems + uptoBulkAll spare + 1
  | .agg parts => uptoBulkAll parts + 1
  | .iface _ d => uptoBulk d + 1
  | .map entries => uptoBulkEntries entries + 1
  | .held _ => 1
def uptoBulkAll {H : Type} : List (DataW H) → Nat
  | [] => 0
  | d :: r => uptoBulk d + uptoBulkAll r
def uptoBulkEntries {H : Type} : List (Lit × DataW H) → Nat
  | [] => 0
  | x :: r => uptoBulkEntry x + uptoBulkEntries r
def uptoBulkEntry {H : Type} : Lit × DataW H → Nat
  | (.string bytes, d) => bytes.length + uptoBulk d + 1
  | (_, d) => uptoBulk d + 1
 end
def uptoSmall : (H : Type) → List (DataW H) → Bool := fun _ ds => decide (uptoBulkAll ds ≤ 1048576)
def OpenSpec.upto (s : _root_.Go.ChangeSpec) : _root_.Go.OpenSpec := { _root_.Go.OpenSpec.ofChange s with cond := some uptoSmall }

/-- 'calquelaw11.StepZero', WHERE WHAT IT READS IS OF BULK AT MOST 1048576: true; the input reads as it did. -/
def stepZeroUptoRow : OpenClaim := { program := "ytchoogeojpllfaa", sum := "85798b22a508cfa100b1c11467538cec066ba8affae6ea56a607543810ba1693", func := "calque/calquelaw11.StepZero", spec := "stepZero", inPlace := ["sync/atomic.LoadInt64", "sync/atomic.AddInt64"], unfollowed := true, recurses := true, apart := false, narrowed := true }
def StepZeroUptoSaid : Prop := stepZeroUptoRow.holds Try.pinned (OpenSpec.upto stepZeroSpec)

/-- 'calquelaw11.StepJumps', WHERE WHAT IT READS IS OF BULK AT MOST 1048576: true; the input reads as it did. -/
def stepJumpsUptoRow : OpenClaim := { program := "ytchoogeojpllfaa", sum := "85798b22a508cfa100b1c11467538cec066ba8affae6ea56a607543810ba1693", func := "calque/calquelaw11.StepJumps", spec := "stepJumps", inPlace := ["sync/atomic.LoadInt64", "sync/atomic.AddInt64"], unfollowed := true, recurses := true, apart := false, narrowed := true }
def StepJumpsUptoSaid : Prop := stepJumpsUptoRow.holds Try.pinned (OpenSpec.upto stepJumpsSpec)

/-- 'calquelaw11.StepLinks', WHERE WHAT IT READS IS OF BULK AT MOST 1048576: true; the input reads as it did. -/
def stepLinksUptoRow : OpenClaim := { program := "ytchoogeojpllfaa", sum := "85798b22a508cfa100b1c11467538cec066ba8affae6ea56a607543810ba1693", func := "calque/calquelaw11.StepLinks", spec := "stepLinks", inPlace := ["sync/atomic.LoadInt64", "sync/atomic.AddInt64"], unfollowed := true, recurses := true, apart := false, narrowed := true }
def StepLinksUptoSaid : Prop := stepLinksUptoRow.holds Try.pinned (OpenSpec.upto stepLinksSpec)

/-- 'calquelaw11.StepFaults', WHERE WHAT IT READS IS OF BULK AT MOST 1048576: true; the input reads as it did. -/
def stepFaultsUptoRow : OpenClaim := { program := "ytchoogeojpllfaa", sum := "85798b22a508cfa100b1c11467538cec066ba8affae6ea56a607543810ba1693", func := "calque/calquelaw11.StepFaults", spec := "stepFaults", inPlace := ["sync/atomic.LoadInt64", "sync/atomic.AddInt64"], unfollowed := true, recurses := true, apart := false, narrowed := true }
def StepFaultsUptoSaid : Prop := stepFaultsUptoRow.holds Try.pinned (OpenSpec.upto stepFaultsSpec)

/-- 'calquelaw13.RunLoops', WHERE WHAT IT READS IS OF BULK AT MOST 1048576: true; the input reads as it did. -/
def runLoopsUptoRow : OpenClaim := { program := "ytchoogeojpllfaa", sum := "85798b22a508cfa100b1c11467538cec066ba8affae6ea56a607543810ba1693", func := "calque/calquelaw13.RunLoops", spec := "runLoops", inPlace := ["sync/atomic.LoadInt64", "sync/atomic.AddInt64"], unfollowed := true, recurses := true, apart := false, narrowed := true }
def RunLoopsUptoSaid : Prop := runLoopsUptoRow.holds Try.pinned (OpenSpec.upto runLoopsSpec)

/-- 'calquelaw19.EvalStops', WHERE WHAT IT READS IS OF BULK AT MOST 1048576: true; the input reads as it did. -/
def evalStopsUptoRow : OpenClaim := { program := "ytchoogeojpllfaa", sum := "85798b22a508cfa100b1c11467538cec066ba8affae6ea56a607543810ba1693", func := "calque/calquelaw19.EvalStops", spec := "evalStops", inPlace := ["sync/atomic.LoadInt64", "sync/atomic.AddInt64"], unfollowed := true, recurses := true, apart := false, narrowed := true }
def EvalStopsUptoSaid : Prop := evalStopsUptoRow.holds Try.pinned (OpenSpec.upto evalStopsSpec)

/-- 'calquelaw19.EvalSlots', WHERE WHAT IT READS IS OF BULK AT MOST 1048576: true; the input reads as it did. -/
def evalSlotsUptoRow : OpenClaim := { program := "ytchoogeojpllfaa", sum := "85798b22a508cfa100b1c11467538cec066ba8affae6ea56a607543810ba1693", func := "calque/calquelaw19.EvalSlots", spec := "evalSlots", inPlace := ["sync/atomic.LoadInt64", "sync/atomic.AddInt64"], unfollowed := true, recurses := true, apart := false, narrowed := true }
def EvalSlotsUptoSaid : Prop := evalSlotsUptoRow.holds Try.pinned (OpenSpec.upto evalSlotsSpec)

/-- 'calquelaw19.EvalDirty', WHERE WHAT IT READS IS OF BULK AT MOST 1048576: true; the input reads as it did. -/
def evalDirtyUptoRow : OpenClaim := { program := "ytchoogeojpllfaa", sum := "85798b22a508cfa100b1c11467538cec066ba8affae6ea56a607543810ba1693", func := "calque/calquelaw19.EvalDirty", spec := "evalDirty", inPlace := ["sync/atomic.LoadInt64", "sync/atomic.AddInt64"], unfollowed := true, recurses := true, apart := false, narrowed := true }
def EvalDirtyUptoSaid : Prop := evalDirtyUptoRow.holds Try.pinned (OpenSpec.upto evalDirtySpec)

end Rows
end Go.Proofs.Ytchoogeojpllfaa
