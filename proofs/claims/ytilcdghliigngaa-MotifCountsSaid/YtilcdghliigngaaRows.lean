/-
  No cell of these rows narrows 'for every input' (looked for: loops, veiled, ifaces, maps, wideKeys, modest, calm, conditions, laid).
  DERIVED. THE GIVEN ROWS OF THIS SEAT. 10 by the template 'for every input the law returns true; each argument reads behind the call as it read before'; 0 by the template 'total and deterministic' (their statements: YtilcdghliigngaaTotals.lean).
  GIVEN WITH THE SEED: the statements are not yours to turn. If you find one false, say at which input.
  Laid BY PROGRAM, IN A SANDBOX (cutbox-rows.mjs): the forced cells as the released guide's own fill.sh prints them over the translation 1a4ae2ed3ec666cd… (all of the seat's roots in one cut). By AI agents, Wed Nov 11 2026. No macro, syntax, notation, axiom, sorry.
-/
import Derived.Test.YtilcdghliigngaaChecked
import GoSem.Claim
import GoSem.ClaimJoined
import GoSem.ClaimMapViews
import Derived.JoinedTies
import Derived.KernelRfl
namespace Go.Proofs.Ytilcdghliigngaa
/- THE CELL 'sum', in the pinned program and in every row, IS THE sha256 OF THE DUMP (.gsa) THAT YtilcdghliigngaaProg.lean LOADS. Nothing in Lean hashes anything: it is a label: what it is worth is what the hold of that sum in a sandbox is worth. -/
noncomputable def Try.pinned : Pinned := { name := "ytilcdghliigngaa", sum := "1a4ae2ed3ec666cdd42bd49966cc5b5a4cdd4b18612ac20bad4b1ab72f426635", checked := Try.checked }
namespace Rows
def none {H : Type} : Left H := { results := [], args := [] }

/-- 'ganglionlaw09.MotifMachines': WHATEVER THE INPUT: true; the input reads as it did. -/
def motifMachinesSpec : ChangeSpec := { name := "motifMachines", fn := fun _ => fun
  | [d1, d2, d3, d4] => { results := [.lit (.bool true)], args := [d1, d2, d3, d4] }
  | _ => none }
def motifMachinesRow : OpenClaim := { program := "ytilcdghliigngaa", sum := "1a4ae2ed3ec666cdd42bd49966cc5b5a4cdd4b18612ac20bad4b1ab72f426635", func := "ganglion/ganglionlaw09.MotifMachines", spec := "motifMachines", inPlace := ["slices.overlaps[ganglion/api.Event]"], unfollowed := true, recurses := true, plainKeys := false, apart := false }
def MotifMachinesSaid : Prop := motifMachinesRow.holds Try.pinned (OpenSpec.ofChange motifMachinesSpec)

/-- ITS FALSE NEIGHBOUR: 'it returns false'. Refute it at one input. -/
def motifMachinesWrong : ChangeSpec := { name := "motifMachines", fn := fun _ => fun
  | [d1, d2, d3, d4] => { results := [.lit (.bool false)], args := [d1, d2, d3, d4] }
  | _ => none }
def MotifMachinesWrongFalsely : Prop := motifMachinesRow.holds Try.pinned (OpenSpec.ofChange motifMachinesWrong)

/-- 'ganglionlaw09.MotifClauses': WHATEVER THE INPUT: true; the input reads as it did. -/
def motifClausesSpec : ChangeSpec := { name := "motifClauses", fn := fun _ => fun
  | [d1, d2, d3, d4, d5] => { results := [.lit (.bool true)], args := [d1, d2, d3, d4, d5] }
  | _ => none }
def motifClausesRow : OpenClaim := { program := "ytilcdghliigngaa", sum := "1a4ae2ed3ec666cdd42bd49966cc5b5a4cdd4b18612ac20bad4b1ab72f426635", func := "ganglion/ganglionlaw09.MotifClauses", spec := "motifClauses", inPlace := ["slices.overlaps[ganglion/api.Event]"], unfollowed := true, recurses := true, plainKeys := false, apart := false }
def MotifClausesSaid : Prop := motifClausesRow.holds Try.pinned (OpenSpec.ofChange motifClausesSpec)

/-- ITS FALSE NEIGHBOUR: 'it returns false'. Refute it at one input. -/
def motifClausesWrong : ChangeSpec := { name := "motifClauses", fn := fun _ => fun
  | [d1, d2, d3, d4, d5] => { results := [.lit (.bool false)], args := [d1, d2, d3, d4, d5] }
  | _ => none }
def MotifClausesWrongFalsely : Prop := motifClausesRow.holds Try.pinned (OpenSpec.ofChange motifClausesWrong)

/-- 'ganglionlaw09.MotifFilters': WHATEVER THE INPUT: true; the input reads as it did. -/
def motifFiltersSpec : ChangeSpec := { name := "motifFilters", fn := fun _ => fun
  | [d1, d2, d3, d4, d5] => { results := [.lit (.bool true)], args := [d1, d2, d3, d4, d5] }
  | _ => none }
def motifFiltersRow : OpenClaim := { program := "ytilcdghliigngaa", sum := "1a4ae2ed3ec666cdd42bd49966cc5b5a4cdd4b18612ac20bad4b1ab72f426635", func := "ganglion/ganglionlaw09.MotifFilters", spec := "motifFilters", inPlace := ["slices.overlaps[ganglion/api.Event]"], unfollowed := true, recurses := true, plainKeys := false, apart := false }
def MotifFiltersSaid : Prop := motifFiltersRow.holds Try.pinned (OpenSpec.ofChange motifFiltersSpec)

/-- ITS FALSE NEIGHBOUR: 'it returns false'. Refute it at one input. -/
def motifFiltersWrong : ChangeSpec := { name := "motifFilters", fn := fun _ => fun
  | [d1, d2, d3, d4, d5] => { results := [.lit (.bool false)], args := [d1, d2, d3, d4, d5] }
  | _ => none }
def MotifFiltersWrongFalsely : Prop := motifFiltersRow.holds Try.pinned (OpenSpec.ofChange motifFiltersWrong)

/-- 'ganglionlaw09.MotifShortest': WHATEVER THE INPUT: true; the input reads as it did. -/
def motifShortestSpec : ChangeSpec := { name := "motifShortest", fn := fun _ => fun
  | [d1, d2, d3] => { results := [.lit (.bool true)], args := [d1, d2, d3] }
  | _ => none }
def motifShortestRow : OpenClaim := { program := "ytilcdghliigngaa", sum := "1a4ae2ed3ec666cdd42bd49966cc5b5a4cdd4b18612ac20bad4b1ab72f426635", func := "ganglion/ganglionlaw09.MotifShortest", spec := "motifShortest", inPlace := ["slices.overlaps[ganglion/api.Event]"], unfollowed := true, recurses := true, plainKeys := false, apart := false }
def MotifShortestSaid : Prop := motifShortestRow.holds Try.pinned (OpenSpec.ofChange motifShortestSpec)

/-- ITS FALSE NEIGHBOUR: 'it returns false'. Refute it at one input. -/
def motifShortestWrong : ChangeSpec := { name := "motifShortest", fn := fun _ => fun
  | [d1, d2, d3] => { results := [.lit (.bool false)], args := [d1, d2, d3] }
  | _ => none }
def MotifShortestWrongFalsely : Prop := motifShortestRow.holds Try.pinned (OpenSpec.ofChange motifShortestWrong)

/-- 'ganglionlaw09.MotifSorts': WHATEVER THE INPUT: true; the input reads as it did. -/
def motifSortsSpec : ChangeSpec := { name := "motifSorts", fn := fun _ => fun
  | [d] => { results := [.lit (.bool true)], args := [d] }
  | _ => none }
def motifSortsRow : OpenClaim := { program := "ytilcdghliigngaa", sum := "1a4ae2ed3ec666cdd42bd49966cc5b5a4cdd4b18612ac20bad4b1ab72f426635", func := "ganglion/ganglionlaw09.MotifSorts", spec := "motifSorts", inPlace := ["slices.overlaps[ganglion/api.Event]"], unfollowed := true, recurses := true, plainKeys := false, apart := false }
def MotifSortsSaid : Prop := motifSortsRow.holds Try.pinned (OpenSpec.ofChange motifSortsSpec)

/-- ITS FALSE NEIGHBOUR: 'it returns false'. Refute it at one input. -/
def motifSortsWrong : ChangeSpec := { name := "motifSorts", fn := fun _ => fun
  | [d] => { results := [.lit (.bool false)], args := [d] }
  | _ => none }
def MotifSortsWrongFalsely : Prop := motifSortsRow.holds Try.pinned (OpenSpec.ofChange motifSortsWrong)

/-- 'ganglionlaw09.MotifAutomata': WHATEVER THE INPUT: true; the input reads as it did. -/
def motifAutomataSpec : ChangeSpec := { name := "motifAutomata", fn := fun _ => fun
  | [d1, d2, d3, d4, d5, d6] => { results := [.lit (.bool true)], args := [d1, d2, d3, d4, d5, d6] }
  | _ => none }
def motifAutomataRow : OpenClaim := { program := "ytilcdghliigngaa", sum := "1a4ae2ed3ec666cdd42bd49966cc5b5a4cdd4b18612ac20bad4b1ab72f426635", func := "ganglion/ganglionlaw09.MotifAutomata", spec := "motifAutomata", inPlace := ["slices.overlaps[ganglion/api.Event]"], unfollowed := true, recurses := true, plainKeys := false, apart := false }
def MotifAutomataSaid : Prop := motifAutomataRow.holds Try.pinned (OpenSpec.ofChange motifAutomataSpec)

/-- ITS FALSE NEIGHBOUR: 'it returns false'. Refute it at one input. -/
def motifAutomataWrong : ChangeSpec := { name := "motifAutomata", fn := fun _ => fun
  | [d1, d2, d3, d4, d5, d6] => { results := [.lit (.bool false)], args := [d1, d2, d3, d4, d5, d6] }
  | _ => none }
def MotifAutomataWrongFalsely : Prop := motifAutomataRow.holds Try.pinned (OpenSpec.ofChange motifAutomataWrong)

/-- 'ganglionlaw09.MotifConclusions': WHATEVER THE INPUT: true; the input reads as it did. -/
def motifConclusionsSpec : ChangeSpec := { name := "motifConclusions", fn := fun _ => fun
  | [d1, d2] => { results := [.lit (.bool true)], args := [d1, d2] }
  | _ => none }
def motifConclusionsRow : OpenClaim := { program := "ytilcdghliigngaa", sum := "1a4ae2ed3ec666cdd42bd49966cc5b5a4cdd4b18612ac20bad4b1ab72f426635", func := "ganglion/ganglionlaw09.MotifConclusions", spec := "motifConclusions", inPlace := ["slices.overlaps[ganglion/api.Event]"], unfollowed := true, recurses := true, plainKeys := false, apart := false }
def MotifConclusionsSaid : Prop := motifConclusionsRow.holds Try.pinned (OpenSpec.ofChange motifConclusionsSpec)

/-- ITS FALSE NEIGHBOUR: 'it returns false'. Refute it at one input. -/
def motifConclusionsWrong : ChangeSpec := { name := "motifConclusions", fn := fun _ => fun
  | [d1, d2] => { results := [.lit (.bool false)], args := [d1, d2] }
  | _ => none }
def MotifConclusionsWrongFalsely : Prop := motifConclusionsRow.holds Try.pinned (OpenSpec.ofChange motifConclusionsWrong)

/-- 'ganglionlaw09.MotifRecall': WHATEVER THE INPUT: true; the input reads as it did. -/
def motifRecallSpec : ChangeSpec := { name := "motifRecall", fn := fun _ => fun
  | [d1, d2, d3, d4] => { results := [.lit (.bool true)], args := [d1, d2, d3, d4] }
  | _ => none }
def motifRecallRow : OpenClaim := { program := "ytilcdghliigngaa", sum := "1a4ae2ed3ec666cdd42bd49966cc5b5a4cdd4b18612ac20bad4b1ab72f426635", func := "ganglion/ganglionlaw09.MotifRecall", spec := "motifRecall", inPlace := ["slices.overlaps[ganglion/api.Event]"], unfollowed := true, recurses := true, plainKeys := false, apart := false }
def MotifRecallSaid : Prop := motifRecallRow.holds Try.pinned (OpenSpec.ofChange motifRecallSpec)

/-- ITS FALSE NEIGHBOUR: 'it returns false'. Refute it at one input. -/
def motifRecallWrong : ChangeSpec := { name := "motifRecall", fn := fun _ => fun
  | [d1, d2, d3, d4] => { results := [.lit (.bool false)], args := [d1, d2, d3, d4] }
  | _ => none }
def MotifRecallWrongFalsely : Prop := motifRecallRow.holds Try.pinned (OpenSpec.ofChange motifRecallWrong)

/-- 'ganglionlaw09.MotifCounts': WHATEVER THE INPUT: true; the input reads as it did. -/
def motifCountsSpec : ChangeSpec := { name := "motifCounts", fn := fun _ => fun
  | [d1, d2, d3, d4] => { results := [.lit (.bool true)], args := [d1, d2, d3, d4] }
  | _ => none }
def motifCountsRow : OpenClaim := { program := "ytilcdghliigngaa", sum := "1a4ae2ed3ec666cdd42bd49966cc5b5a4cdd4b18612ac20bad4b1ab72f426635", func := "ganglion/ganglionlaw09.MotifCounts", spec := "motifCounts", inPlace := ["slices.overlaps[ganglion/api.Event]"], unfollowed := true, recurses := true, plainKeys := false, apart := false }
def MotifCountsSaid : Prop := motifCountsRow.holds Try.pinned (OpenSpec.ofChange motifCountsSpec)

/-- ITS FALSE NEIGHBOUR: 'it returns false'. Refute it at one input. -/
def motifCountsWrong : ChangeSpec := { name := "motifCounts", fn := fun _ => fun
  | [d1, d2, d3, d4] => { results := [.lit (.bool false)], args := [d1, d2, d3, d4] }
  | _ => none }
def MotifCountsWrongFalsely : Prop := motifCountsRow.holds Try.pinned (OpenSpec.ofChange motifCountsWrong)

/-- 'ganglionlaw09.MotifBeside': WHATEVER THE INPUT: true; the input reads as it did. -/
def motifBesideSpec : ChangeSpec := { name := "motifBeside", fn := fun _ => fun
  | [d1, d2, d3, d4] => { results := [.lit (.bool true)], args := [d1, d2, d3, d4] }
  | _ => none }
def motifBesideRow : OpenClaim := { program := "ytilcdghliigngaa", sum := "1a4ae2ed3ec666cdd42bd49966cc5b5a4cdd4b18612ac20bad4b1ab72f426635", func := "ganglion/ganglionlaw09.MotifBeside", spec := "motifBeside", inPlace := ["slices.overlaps[ganglion/api.Event]"], unfollowed := true, recurses := true, plainKeys := false, apart := false }
def MotifBesideSaid : Prop := motifBesideRow.holds Try.pinned (OpenSpec.ofChange motifBesideSpec)

/-- ITS FALSE NEIGHBOUR: 'it returns false'. Refute it at one input. -/
def motifBesideWrong : ChangeSpec := { name := "motifBeside", fn := fun _ => fun
  | [d1, d2, d3, d4] => { results := [.lit (.bool false)], args := [d1, d2, d3, d4] }
  | _ => none }
def MotifBesideWrongFalsely : Prop := motifBesideRow.holds Try.pinned (OpenSpec.ofChange motifBesideWrong)

/- THE SECOND FORM. 'bulk': how many values and letters a reading holds, each counted each time it is reached (what is shared counts as often as it is met; a slice's spare places count too). A statement '..UptoSaid' is the law's where the arguments, and the package variables that the reading takes, are together of bulk at most 1048576: NARROWER than '..Said'. Prove '..Said' where nothing that the law and all that it calls make is longer than what came in: it says more and counts as full. Else prove '..UptoSaid'. A law counts once. -/
mutual
def uptoBulk {H : Type} : DataW H → Nat
  | .lit (.string bytes) => bytes.length + 1
  | .lit _ => 1
  | .nil => 1
  | .ptr d => uptoBulk d + 1
  | .slice elems spare => uptoBulkAll elems + uptoBulkAll spare + 1
  | .agg parts => uptoBulkAll parts + 1
  | .iface _ d => uptoBulk d + 1
  | .map entries => uptoBulkEntries entries + 1
  | .held _ => 1
def uptoBulkAll {H : Type} : List (DataW H) → Nat
  | [] => 0
  | d :: r => uptoBulk d + uptoBulkAll r
def uptoBulkEntries {H : Type} : List (Lit × DataW H) → Nat
  | [] => 0
  | x :: r => uptoBulkEntry x + uptoBulkEntries r
def uptoBulkEntry {H : Type} : Lit × DataW H → Nat
  | (.string bytes, d) => bytes.length + uptoBulk d + 1
  | (_, d) => uptoBulk d + 1
 end
def uptoSmall : (H : Type) → List (DataW H) → Bool := fun _ ds => decide (uptoBulkAll ds ≤ 1048576)
def OpenSpec.upto (s : _root_.Go.ChangeSpec) : _root_.Go.OpenSpec := { _root_.Go.OpenSpec.ofChange s with cond := some uptoSmall }

/-- 'ganglionlaw09.MotifMachines', WHERE WHAT IT READS IS OF BULK AT MOST 1048576: true; the input reads as it did. -/
def motifMachinesUptoRow : OpenClaim := { program := "ytilcdghliigngaa", sum := "1a4ae2ed3ec666cdd42bd49966cc5b5a4cdd4b18612ac20bad4b1ab72f426635", func := "ganglion/ganglionlaw09.MotifMachines", spec := "motifMachines", inPlace := ["slices.overlaps[ganglion/api.Event]"], unfollowed := true, recurses := true, plainKeys := false, apart := false, narrowed := true }
def MotifMachinesUptoSaid : Prop := motifMachinesUptoRow.holds Try.pinned (OpenSpec.upto motifMachinesSpec)

/-- 'ganglionlaw09.MotifClauses', WHERE WHAT IT READS IS OF BULK AT MOST 1048576: true; the input reads as it did. -/
def motifClausesUptoRow : OpenClaim := { program := "ytilcdghliigngaa", sum := "1a4ae2ed3ec666cdd42bd49966cc5b5a4cdd4b18612ac20bad4b1ab72f426635", func := "ganglion/ganglionlaw09.MotifClauses", spec := "motifClauses", inPlace := ["slices.overlaps[ganglion/api.Event]"], unfollowed := true, recurses := true, plainKeys := false, apart := false, narrowed := true }
def MotifClausesUptoSaid : Prop := motifClausesUptoRow.holds Try.pinned (OpenSpec.upto motifClausesSpec)

/-- 'ganglionlaw09.MotifFilters', WHERE WHAT IT READS IS OF BULK AT MOST 1048576: true; the input reads as it did. -/
def motifFiltersUptoRow : OpenClaim := { program := "ytilcdghliigngaa", sum := "1a4ae2ed3ec666cdd42bd49966cc5b5a4cdd4b18612ac20bad4b1ab72f426635", func := "ganglion/ganglionlaw09.MotifFilters", spec := "motifFilters", inPlace := ["slices.overlaps[ganglion/api.Event]"], unfollowed := true, recurses := true, plainKeys := false, apart := false, narrowed := true }
def MotifFiltersUptoSaid : Prop := motifFiltersUptoRow.holds Try.pinned (OpenSpec.upto motifFiltersSpec)

/-- 'ganglionlaw09.MotifShortest', WHERE WHAT IT READS IS OF BULK AT MOST 1048576: true; the input reads as it did. -/
def motifShortestUptoRow : OpenClaim := { program := "ytilcdghliigngaa", sum := "1a4ae2ed3ec666cdd42bd49966cc5b5a4cdd4b18612ac20bad4b1ab72f426635", func := "ganglion/ganglionlaw09.MotifShortest", spec := "motifShortest", inPlace := ["slices.overlaps[ganglion/api.Event]"], unfollowed := true, recurses := true, plainKeys := false, apart := false, narrowed := true }
def MotifShortestUptoSaid : Prop := motifShortestUptoRow.holds Try.pinned (OpenSpec.upto motifShortestSpec)

/-- 'ganglionlaw09.MotifSorts', WHERE WHAT IT READS IS OF BULK AT MOST 1048576: true; the input reads as it did. -/
def motifSortsUptoRow : OpenClaim := { program := "ytilcdghliigngaa", sum := "1a4ae2ed3ec666cdd42bd49966cc5b5a4cdd4b18612ac20bad4b1ab72f426635", func := "ganglion/ganglionlaw09.MotifSorts", spec := "motifSorts", inPlace := ["slices.overlaps[ganglion/api.Event]"], unfollowed := true, recurses := true, plainKeys := false, apart := false, narrowed := true }
def MotifSortsUptoSaid : Prop := motifSortsUptoRow.holds Try.pinned (OpenSpec.upto motifSortsSpec)

/-- 'ganglionlaw09.MotifAutomata', WHERE WHAT IT READS IS OF BULK AT MOST 1048576: true; the input reads as it did. -/
def motifAutomataUptoRow : OpenClaim := { program := "ytilcdghliigngaa", sum := "1a4ae2ed3ec666cdd42bd49966cc5b5a4cdd4b18612ac20bad4b1ab72f426635", func := "ganglion/ganglionlaw09.MotifAutomata", spec := "motifAutomata", inPlace := ["slices.overlaps[ganglion/api.Event]"], unfollowed := true, recurses := true, plainKeys := false, apart := false, narrowed := true }
def MotifAutomataUptoSaid : Prop := motifAutomataUptoRow.holds Try.pinned (OpenSpec.upto motifAutomataSpec)

/-- 'ganglionlaw09.MotifConclusions', WHERE WHAT IT READS IS OF BULK AT MOST 1048576: true; the input reads as it did. -/
def motifConclusionsUptoRow : OpenClaim := { program := "ytilcdghliigngaa", sum := "1a4ae2ed3ec666cdd42bd49966cc5b5a4cdd4b18612ac20bad4b1ab72f426635", func := "ganglion/ganglionlaw09.MotifConclusions", spec := "motifConclusions", inPlace := ["slices.overlaps[ganglion/api.Event]"], unfollowed := true, recurses := true, plainKeys := false, apart := false, narrowed := true }
def MotifConclusionsUptoSaid : Prop := motifConclusionsUptoRow.holds Try.pinned (OpenSpec.upto motifConclusionsSpec)

/-- 'ganglionlaw09.MotifRecall', WHERE WHAT IT READS IS OF BULK AT MOST 1048576: true; the input reads as it did. -/
def motifRecallUptoRow : OpenClaim := { program := "ytilcdghliigngaa", sum := "1a4ae2ed3ec666cdd42bd49966cc5b5a4cdd4b18612ac20bad4b1ab72f426635", func := "ganglion/ganglionlaw09.MotifRecall", spec := "motifRecall", inPlace := ["slices.overlaps[ganglion/api.Event]"], unfollowed := true, recurses := true, plainKeys := false, apart := false, narrowed := true }
def MotifRecallUptoSaid : Prop := motifRecallUptoRow.holds Try.pinned (OpenSpec.upto motifRecallSpec)

/-- 'ganglionlaw09.MotifCounts', WHERE WHAT IT READS IS OF BULK AT MOST 1048576: true; the input reads as it did. -/
def motifCountsUptoRow : OpenClaim := { program := "ytilcdghliigngaa", sum := "1a4ae2ed3ec666cdd42bd49966cc5b5a4cdd4b18612ac20bad4b1ab72f426635", func := "ganglion/ganglionlaw09.MotifCounts", spec := "motifCounts", inPlace := ["slices.overlaps[ganglion/api.Event]"], unfollowed := true, recurses := true, plainKeys := false, apart := false, narrowed := true }
def MotifCountsUptoSaid : Prop := motifCountsUptoRow.holds Try.pinned (OpenSpec.upto motifCountsSpec)

/-- 'ganglionlaw09.MotifBeside', WHERE WHAT IT READS IS OF BULK AT MOST 1048576: true; the input reads as it did. -/
def motifBesideUptoRow : OpenClaim := { program := "ytilcdghliigngaa", sum := "1a4ae2ed3ec666cdd42bd49966cc5b5a4cdd4b18612ac20bad4b1ab72f426635", func := "ganglion/ganglionlaw09.MotifBeside", spec := "motifBeside", inPlace := ["slices.overlaps[ganglion/api.Event]"], unfollowed := true, recurses := true, plainKeys := false, apart := false, narrowed := true }
def MotifBesideUptoSaid : Prop := motifBesideUptoRow.holds Try.pinned (OpenSpec.upto motifBesideSpec)

end Rows
end Go.Proofs.Ytilcdghliigngaa
