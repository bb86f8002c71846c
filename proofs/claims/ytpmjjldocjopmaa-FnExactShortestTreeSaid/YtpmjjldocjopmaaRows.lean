/-
  No cell of these rows narrows 'for every input' (looked for: loops, veiled, ifaces, maps, wideKeys, modest, calm, conditions, laid).
  DERIVED. THE GIVEN ROWS OF THIS SEAT. 6 by the template 'for every input the law returns true; each argument reads behind the call as it read before'; 0 by the template 'total and deterministic' (their statements: YtpmjjldocjopmaaTotals.lean).
  GIVEN WITH THE SEED: the statements are not yours to turn. If you find one false, say at which input.
  Laid BY PROGRAM, IN A SANDBOX (cutbox-rows.mjs): the forced cells as the released guide's own fill.sh prints them over the translation ed8b2166bc2cb7e5… (all of the seat's roots in one cut). By AI agents, Wed Nov 11 2026. No macro, syntax, notation, axiom, sorry.
-/
import Derived.Test.YtpmjjldocjopmaaChecked
import GoSem.Claim
import GoSem.ClaimJoined
import GoSem.ClaimMapViews
import Derived.JoinedTies
import Derived.KernelRfl
namespace Go.Proofs.Ytpmjjldocjopmaa
/- THE CELL 'sum', in the pinned program and in every row, IS THE sha256 OF THE DUMP (.gsa) THAT YtpmjjldocjopmaaProg.lean LOADS. Nothing in Lean hashes anything: it is a label: what it is worth is what the hold of that sum in a sandbox is worth. -/
noncomputable def Try.pinned : Pinned := { name := "ytpmjjldocjopmaa", sum := "ed8b2166bc2cb7e53d337c152444c1d6a6f174add5a7cdc73a7614c30e42d1b3", checked := Try.checked }
namespace Rows
def none {H : Type} : Left H := { results := [], args := [] }

/-- 'laws.FnIncidences': WHATEVER THE INPUT: true; the input reads as it did. -/
def fnIncidencesSpec : ChangeSpec := { name := "fnIncidences", fn := fun _ => fun
  | [d] => { results := [.lit (.bool true)], args := [d] }
  | _ => none }
def fnIncidencesRow : OpenClaim := { program := "ytpmjjldocjopmaa", sum := "ed8b2166bc2cb7e53d337c152444c1d6a6f174add5a7cdc73a7614c30e42d1b3", func := "loop.example/g03104/laws.FnIncidences", spec := "fnIncidences", unfollowed := true, recurses := true, apart := false }
def FnIncidencesSaid : Prop := fnIncidencesRow.holds Try.pinned (OpenSpec.ofChange fnIncidencesSpec)

/-- ITS FALSE NEIGHBOUR: 'it returns false'. Refute it at one input. -/
def fnIncidencesWrong : ChangeSpec := { name := "fnIncidences", fn := fun _ => fun
  | [d] => { results := [.lit (.bool false)], args := [d] }
  | _ => none }
def FnIncidencesWrongFalsely : Prop := fnIncidencesRow.holds Try.pinned (OpenSpec.ofChange fnIncidencesWrong)

/-- 'laws.FnExactShortestTree': WHATEVER THE INPUT: true; the input reads as it did. -/
def fnExactShortestTreeSpec : ChangeSpec := { name := "fnExactShortestTree", fn := fun _ => fun
  | [d] => { results := [.lit (.bool true)], args := [d] }
  | _ => none }
def fnExactShortestTreeRow : OpenClaim := { program := "ytpmjjldocjopmaa", sum := "ed8b2166bc2cb7e53d337c152444c1d6a6f174add5a7cdc73a7614c30e42d1b3", func := "loop.example/g03104/laws.FnExactShortestTree", spec := "fnExactShortestTree", unfollowed := true, recurses := true, apart := false }
def FnExactShortestTreeSaid : Prop := fnExactShortestTreeRow.holds Try.pinned (OpenSpec.ofChange fnExactShortestTreeSpec)

/-- ITS FALSE NEIGHBOUR: 'it returns false'. Refute it at one input. -/
def fnExactShortestTreeWrong : ChangeSpec := { name := "fnExactShortestTree", fn := fun _ => fun
  | [d] => { results := [.lit (.bool false)], args := [d] }
  | _ => none }
def FnExactShortestTreeWrongFalsely : Prop := fnExactShortestTreeRow.holds Try.pinned (OpenSpec.ofChange fnExactShortestTreeWrong)

/-- 'laws.FnExactCellSets': WHATEVER THE INPUT: true; the input reads as it did. -/
def fnExactCellSetsSpec : ChangeSpec := { name := "fnExactCellSets", fn := fun _ => fun
  | [d1, d2] => { results := [.lit (.bool true)], args := [d1, d2] }
  | _ => none }
def fnExactCellSetsRow : OpenClaim := { program := "ytpmjjldocjopmaa", sum := "ed8b2166bc2cb7e53d337c152444c1d6a6f174add5a7cdc73a7614c30e42d1b3", func := "loop.example/g03104/laws.FnExactCellSets", spec := "fnExactCellSets", unfollowed := true, recurses := true, apart := false }
def FnExactCellSetsSaid : Prop := fnExactCellSetsRow.holds Try.pinned (OpenSpec.ofChange fnExactCellSetsSpec)

/-- ITS FALSE NEIGHBOUR: 'it returns false'. Refute it at one input. -/
def fnExactCellSetsWrong : ChangeSpec := { name := "fnExactCellSets", fn := fun _ => fun
  | [d1, d2] => { results := [.lit (.bool false)], args := [d1, d2] }
  | _ => none }
def FnExactCellSetsWrongFalsely : Prop := fnExactCellSetsRow.holds Try.pinned (OpenSpec.ofChange fnExactCellSetsWrong)

/-- 'laws.FnExactIsGridInside': WHATEVER THE INPUT: true; the input reads as it did. -/
def fnExactIsGridInsideSpec : ChangeSpec := { name := "fnExactIsGridInside", fn := fun _ => fun
  | [d1, d2] => { results := [.lit (.bool true)], args := [d1, d2] }
  | _ => none }
def fnExactIsGridInsideRow : OpenClaim := { program := "ytpmjjldocjopmaa", sum := "ed8b2166bc2cb7e53d337c152444c1d6a6f174add5a7cdc73a7614c30e42d1b3", func := "loop.example/g03104/laws.FnExactIsGridInside", spec := "fnExactIsGridInside", unfollowed := true, recurses := true, apart := false }
def FnExactIsGridInsideSaid : Prop := fnExactIsGridInsideRow.holds Try.pinned (OpenSpec.ofChange fnExactIsGridInsideSpec)

/-- ITS FALSE NEIGHBOUR: 'it returns false'. Refute it at one input. -/
def fnExactIsGridInsideWrong : ChangeSpec := { name := "fnExactIsGridInside", fn := fun _ => fun
  | [d1, d2] => { results := [.lit (.bool false)], args := [d1, d2] }
  | _ => none }
def FnExactIsGridInsideWrongFalsely : Prop := fnExactIsGridInsideRow.holds Try.pinned (OpenSpec.ofChange fnExactIsGridInsideWrong)

/-- 'laws.FnExactEdgePoints': WHATEVER THE INPUT: true; the input reads as it did. -/
def fnExactEdgePointsSpec : ChangeSpec := { name := "fnExactEdgePoints", fn := fun _ => fun
  | [d] => { results := [.lit (.bool true)], args := [d] }
  | _ => none }
def fnExactEdgePointsRow : OpenClaim := { program := "ytpmjjldocjopmaa", sum := "ed8b2166bc2cb7e53d337c152444c1d6a6f174add5a7cdc73a7614c30e42d1b3", func := "loop.example/g03104/laws.FnExactEdgePoints", spec := "fnExactEdgePoints", unfollowed := true, recurses := true, apart := false }
def FnExactEdgePointsSaid : Prop := fnExactEdgePointsRow.holds Try.pinned (OpenSpec.ofChange fnExactEdgePointsSpec)

/-- ITS FALSE NEIGHBOUR: 'it returns false'. Refute it at one input. -/
def fnExactEdgePointsWrong : ChangeSpec := { name := "fnExactEdgePoints", fn := fun _ => fun
  | [d] => { results := [.lit (.bool false)], args := [d] }
  | _ => none }
def FnExactEdgePointsWrongFalsely : Prop := fnExactEdgePointsRow.holds Try.pinned (OpenSpec.ofChange fnExactEdgePointsWrong)

/-- 'laws.FnExactInnerPoints': WHATEVER THE INPUT: true; the input reads as it did. -/
def fnExactInnerPointsSpec : ChangeSpec := { name := "fnExactInnerPoints", fn := fun _ => fun
  | [d] => { results := [.lit (.bool true)], args := [d] }
  | _ => none }
def fnExactInnerPointsRow : OpenClaim := { program := "ytpmjjldocjopmaa", sum := "ed8b2166bc2cb7e53d337c152444c1d6a6f174add5a7cdc73a7614c30e42d1b3", func := "loop.example/g03104/laws.FnExactInnerPoints", spec := "fnExactInnerPoints", unfollowed := true, recurses := true, apart := false }
def FnExactInnerPointsSaid : Prop := fnExactInnerPointsRow.holds Try.pinned (OpenSpec.ofChange fnExactInnerPointsSpec)

/-- ITS FALSE NEIGHBOUR: 'it returns false'. Refute it at one input. -/
def fnExactInnerPointsWrong : ChangeSpec := { name := "fnExactInnerPoints", fn := fun _ => fun
  | [d] => { results := [.lit (.bool false)], args := [d] }
  | _ => none }
def FnExactInnerPointsWrongFalsely : Prop := fnExactInnerPointsRow.holds Try.pinned (OpenSpec.ofChange fnExactInnerPointsWrong)

/- THE SECOND FORM. 'bulk': how many values and letters a reading holds, each counted each time it is reached (what is shared counts as often as it is met; a slice's spare places count too). A statement '..UptoSaid' is the law's where the arguments, and the package variables that the reading takes, are together of bulk at most 1048576: NARROWER than '..Said'. Prove '..Said' where nothing that the law and all that it calls make is longer than what came in: it says more and counts as full. Else prove '..UptoSaid'. A law counts once. -/
mutual
def uptoBulk {H : Type} : DataW H → Nat
  | .lit (.string bytes) => bytes.length + 1
  | .lit _ => 1
  | .nil => 1
  | .ptr d => uptoBulk d + 1
  | .slice elems spare => uptoBulkAll elems + uptoBulkAll spare + 1
  | .agg parts => uptoBulkAll parts + 1
  | .iface _ d => uptoBulk d + 1
  | .map entries => uptoBulkEntries entries + 1
  | .held _ => 1
def uptoBulkAll {H : Type} : List (DataW H) → Nat
  | [] => 0
  | d :: r => uptoBulk d + uptoBulkAll r
def uptoBulkEntries {H : Type} : List (Lit × DataW H) → Nat
  | [] => 0
  | x :: r => uptoBulkEntry x + uptoBulkEntries r
def uptoBulkEntry {H : Type} : Lit × DataW H → Nat
  | (.string bytes, d) => bytes.length + uptoBulk d + 1
  | (_, d) => uptoBulk d + 1
 end
def uptoSmall : (H : Type) → List (DataW H) → Bool := fun _ ds => decide (uptoBulkAll ds ≤ 1048576)
def OpenSpec.upto (s : _root_.Go.ChangeSpec) : _root_.Go.OpenSpec := { _root_.Go.OpenSpec.ofChange s with cond := some uptoSmall }

/-- 'laws.FnIncidences', WHERE WHAT IT READS IS OF BULK AT MOST 1048576: true; the input reads as it did. -/
def fnIncidencesUptoRow : OpenClaim := { program := "ytpmjjldocjopmaa", sum := "ed8b2166bc2cb7e53d337c152444c1d6a6f174add5a7cdc73a7614c30e42d1b3", func := "loop.example/g03104/laws.FnIncidences", spec := "fnIncidences", unfollowed := true, recurses := true, apart := false, narrowed := true }
def FnIncidencesUptoSaid : Prop := fnIncidencesUptoRow.holds Try.pinned (OpenSpec.upto fnIncidencesSpec)

/-- 'laws.FnExactShortestTree', WHERE WHAT IT READS IS OF BULK AT MOST 1048576: true; the input reads as it did. -/
def fnExactShortestTreeUptoRow : OpenClaim := { program := "ytpmjjldocjopmaa", sum := "ed8b2166bc2cb7e53d337c152444c1d6a6f174add5a7cdc73a7614c30e42d1b3", func := "loop.example/g03104/laws.FnExactShortestTree", spec := "fnExactShortestTree", unfollowed := true, recurses := true, apart := false, narrowed := true }
def FnExactShortestTreeUptoSaid : Prop := fnExactShortestTreeUptoRow.holds Try.pinned (OpenSpec.upto fnExactShortestTreeSpec)

/-- 'laws.FnExactCellSets', WHERE WHAT IT READS IS OF BULK AT MOST 1048576: true; the input reads as it did. -/
def fnExactCellSetsUptoRow : OpenClaim := { program := "ytpmjjldocjopmaa", sum := "ed8b2166bc2cb7e53d337c152444c1d6a6f174add5a7cdc73a7614c30e42d1b3", func := "loop.example/g03104/laws.FnExactCellSets", spec := "fnExactCellSets", unfollowed := true, recurses := true, apart := false, narrowed := true }
def FnExactCellSetsUptoSaid : Prop := fnExactCellSetsUptoRow.holds Try.pinned (OpenSpec.upto fnExactCellSetsSpec)

/-- 'laws.FnExactIsGridInside', WHERE WHAT IT READS IS OF BULK AT MOST 1048576: true; the input reads as it did. -/
def fnExactIsGridInsideUptoRow : OpenClaim := { program := "ytpmjjldocjopmaa", sum := "ed8b2166bc2cb7e53d337c152444c1d6a6f174add5a7cdc73a7614c30e42d1b3", func := "loop.example/g03104/laws.FnExactIsGridInside", spec := "fnExactIsGridInside", unfollowed := true, recurses := true, apart := false, narrowed := true }
def FnExactIsGridInsideUptoSaid : Prop := fnExactIsGridInsideUptoRow.holds Try.pinned (OpenSpec.upto fnExactIsGridInsideSpec)

/-- 'laws.FnExactEdgePoints', WHERE WHAT IT READS IS OF BULK AT MOST 1048576: true; the input reads as it did. -/
def fnExactEdgePointsUptoRow : OpenClaim := { program := "ytpmjjldocjopmaa", sum := "ed8b2166bc2cb7e53d337c152444c1d6a6f174add5a7cdc73a7614c30e42d1b3", func := "loop.example/g03104/laws.FnExactEdgePoints", spec := "fnExactEdgePoints", unfollowed := true, recurses := true, apart := false, narrowed := true }
def FnExactEdgePointsUptoSaid : Prop := fnExactEdgePointsUptoRow.holds Try.pinned (OpenSpec.upto fnExactEdgePointsSpec)

/-- 'laws.FnExactInnerPoints', WHERE WHAT IT READS IS OF BULK AT MOST 1048576: true; the input reads as it did. -/
def fnExactInnerPointsUptoRow : OpenClaim := { program := "ytpmjjldocjopmaa", sum := "ed8b2166bc2cb7e53d337c152444c1d6a6f174add5a7cdc73a7614c30e42d1b3", func := "loop.example/g03104/laws.FnExactInnerPoints", spec := "fnExactInnerPoints", unfollowed := true, recurses := true, apart := false, narrowed := true }
def FnExactInnerPointsUptoSaid : Prop := fnExactInnerPointsUptoRow.holds Try.pinned (OpenSpec.upto fnExactInnerPointsSpec)

end Rows
end Go.Proofs.Ytpmjjldocjopmaa
