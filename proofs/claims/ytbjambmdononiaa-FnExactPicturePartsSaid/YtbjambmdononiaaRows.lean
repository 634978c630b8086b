/-
  No cell of these rows narrows 'for every input' (looked for: loops, veiled, ifaces, maps, wideKeys, modest, calm, conditions, laid).
  DERIVED. THE GIVEN ROWS OF THIS SEAT. 12 by the template 'for every input the law returns true; each argument reads behind the call as it read before'; 0 by the template 'total and deterministic' (their statements: YtbjambmdononiaaTotals.lean).
  GIVEN WITH THE SEED: the statements are not yours to turn. If you find one false, say at which input.
  Laid BY PROGRAM, IN A SANDBOX (cutbox-rows.mjs): the forced cells as the released guide's own fill.sh prints them over the translation 93f0bda9e2e1d543… (all of the seat's roots in one cut). By AI agents, Wed Nov 11 2026. No macro, syntax, notation, axiom, sorry.
-/
import Derived.Test.YtbjambmdononiaaChecked
import GoSem.Claim
import GoSem.ClaimJoined
import GoSem.ClaimMapViews
import Derived.JoinedTies
import Derived.KernelRfl
namespace Go.Proofs.Ytbjambmdononiaa
/- THE CELL 'sum', in the pinned program and in every row, IS THE sha256 OF THE DUMP (.gsa) THAT YtbjambmdononiaaProg.lean LOADS. Nothing in Lean hashes anything: it is a label: what it is worth is what the hold of that sum in a sandbox is worth. -/
noncomputable def Try.pinned : Pinned := { name := "ytbjambmdononiaa", sum := "93f0bda9e2e1d5431df533083bdde37fc167efaafb0bf5def0d11a812f6afe0a", checked := Try.checked }
namespace Rows
def none {H : Type} : Left H := { results := [], args := [] }

/-- 'laws.FnExactPictureParts': WHATEVER THE INPUT: true; the input reads as it did. -/
def fnExactPicturePartsSpec : ChangeSpec := { name := "fnExactPictureParts", fn := fun _ => fun
  | [d1, d2, d3] => { results := [.lit (.bool true)], args := [d1, d2, d3] }
  | _ => none }
def fnExactPicturePartsRow : OpenClaim := { program := "ytbjambmdononiaa", sum := "93f0bda9e2e1d5431df533083bdde37fc167efaafb0bf5def0d11a812f6afe0a", func := "loop.example/g00960/laws.FnExactPictureParts", spec := "fnExactPictureParts", apart := false }
def FnExactPicturePartsSaid : Prop := fnExactPicturePartsRow.holds Try.pinned (OpenSpec.ofChange fnExactPicturePartsSpec)

/-- ITS FALSE NEIGHBOUR: 'it returns false'. Refute it at one input. -/
def fnExactPicturePartsWrong : ChangeSpec := { name := "fnExactPictureParts", fn := fun _ => fun
  | [d1, d2, d3] => { results := [.lit (.bool false)], args := [d1, d2, d3] }
  | _ => none }
def FnExactPicturePartsWrongFalsely : Prop := fnExactPicturePartsRow.holds Try.pinned (OpenSpec.ofChange fnExactPicturePartsWrong)

/-- 'laws.FnExactPictureUnits': WHATEVER THE INPUT: true; the input reads as it did. -/
def fnExactPictureUnitsSpec : ChangeSpec := { name := "fnExactPictureUnits", fn := fun _ => fun
  | [d1, d2, d3, d4, d5] => { results := [.lit (.bool true)], args := [d1, d2, d3, d4, d5] }
  | _ => none }
def fnExactPictureUnitsRow : OpenClaim := { program := "ytbjambmdononiaa", sum := "93f0bda9e2e1d5431df533083bdde37fc167efaafb0bf5def0d11a812f6afe0a", func := "loop.example/g00960/laws.FnExactPictureUnits", spec := "fnExactPictureUnits", apart := false }
def FnExactPictureUnitsSaid : Prop := fnExactPictureUnitsRow.holds Try.pinned (OpenSpec.ofChange fnExactPictureUnitsSpec)

/-- ITS FALSE NEIGHBOUR: 'it returns false'. Refute it at one input. -/
def fnExactPictureUnitsWrong : ChangeSpec := { name := "fnExactPictureUnits", fn := fun _ => fun
  | [d1, d2, d3, d4, d5] => { results := [.lit (.bool false)], args := [d1, d2, d3, d4, d5] }
  | _ => none }
def FnExactPictureUnitsWrongFalsely : Prop := fnExactPictureUnitsRow.holds Try.pinned (OpenSpec.ofChange fnExactPictureUnitsWrong)

/-- 'laws.FnExactConforms': WHATEVER THE INPUT: true; the input reads as it did. -/
def fnExactConformsSpec : ChangeSpec := { name := "fnExactConforms", fn := fun _ => fun
  | [d] => { results := [.lit (.bool true)], args := [d] }
  | _ => none }
def fnExactConformsRow : OpenClaim := { program := "ytbjambmdononiaa", sum := "93f0bda9e2e1d5431df533083bdde37fc167efaafb0bf5def0d11a812f6afe0a", func := "loop.example/g00960/laws.FnExactConforms", spec := "fnExactConforms", apart := false }
def FnExactConformsSaid : Prop := fnExactConformsRow.holds Try.pinned (OpenSpec.ofChange fnExactConformsSpec)

/-- ITS FALSE NEIGHBOUR: 'it returns false'. Refute it at one input. -/
def fnExactConformsWrong : ChangeSpec := { name := "fnExactConforms", fn := fun _ => fun
  | [d] => { results := [.lit (.bool false)], args := [d] }
  | _ => none }
def FnExactConformsWrongFalsely : Prop := fnExactConformsRow.holds Try.pinned (OpenSpec.ofChange fnExactConformsWrong)

/-- 'laws.FnLostSlice': WHATEVER THE INPUT: true; the input reads as it did. -/
def fnLostSliceSpec : ChangeSpec := { name := "fnLostSlice", fn := fun _ => fun
  | [d] => { results := [.lit (.bool true)], args := [d] }
  | _ => none }
def fnLostSliceRow : OpenClaim := { program := "ytbjambmdononiaa", sum := "93f0bda9e2e1d5431df533083bdde37fc167efaafb0bf5def0d11a812f6afe0a", func := "loop.example/g00960/laws.FnLostSlice", spec := "fnLostSlice", apart := false }
def FnLostSliceSaid : Prop := fnLostSliceRow.holds Try.pinned (OpenSpec.ofChange fnLostSliceSpec)

/-- ITS FALSE NEIGHBOUR: 'it returns false'. Refute it at one input. -/
def fnLostSliceWrong : ChangeSpec := { name := "fnLostSlice", fn := fun _ => fun
  | [d] => { results := [.lit (.bool false)], args := [d] }
  | _ => none }
def FnLostSliceWrongFalsely : Prop := fnLostSliceRow.holds Try.pinned (OpenSpec.ofChange fnLostSliceWrong)

/-- 'laws.FnExactPlanOk': WHATEVER THE INPUT: true; the input reads as it did. -/
def fnExactPlanOkSpec : ChangeSpec := { name := "fnExactPlanOk", fn := fun _ => fun
  | [d] => { results := [.lit (.bool true)], args := [d] }
  | _ => none }
def fnExactPlanOkRow : OpenClaim := { program := "ytbjambmdononiaa", sum := "93f0bda9e2e1d5431df533083bdde37fc167efaafb0bf5def0d11a812f6afe0a", func := "loop.example/g00960/laws.FnExactPlanOk", spec := "fnExactPlanOk", apart := false }
def FnExactPlanOkSaid : Prop := fnExactPlanOkRow.holds Try.pinned (OpenSpec.ofChange fnExactPlanOkSpec)

/-- ITS FALSE NEIGHBOUR: 'it returns false'. Refute it at one input. -/
def fnExactPlanOkWrong : ChangeSpec := { name := "fnExactPlanOk", fn := fun _ => fun
  | [d] => { results := [.lit (.bool false)], args := [d] }
  | _ => none }
def FnExactPlanOkWrongFalsely : Prop := fnExactPlanOkRow.holds Try.pinned (OpenSpec.ofChange fnExactPlanOkWrong)

/-- 'laws.FnExactEpochsOf': WHATEVER THE INPUT: true; the input reads as it did. -/
def fnExactEpochsOfSpec : ChangeSpec := { name := "fnExactEpochsOf", fn := fun _ => fun
  | [d] => { results := [.lit (.bool true)], args := [d] }
  | _ => none }
def fnExactEpochsOfRow : OpenClaim := { program := "ytbjambmdononiaa", sum := "93f0bda9e2e1d5431df533083bdde37fc167efaafb0bf5def0d11a812f6afe0a", func := "loop.example/g00960/laws.FnExactEpochsOf", spec := "fnExactEpochsOf", apart := false }
def FnExactEpochsOfSaid : Prop := fnExactEpochsOfRow.holds Try.pinned (OpenSpec.ofChange fnExactEpochsOfSpec)

/-- ITS FALSE NEIGHBOUR: 'it returns false'. Refute it at one input. -/
def fnExactEpochsOfWrong : ChangeSpec := { name := "fnExactEpochsOf", fn := fun _ => fun
  | [d] => { results := [.lit (.bool false)], args := [d] }
  | _ => none }
def FnExactEpochsOfWrongFalsely : Prop := fnExactEpochsOfRow.holds Try.pinned (OpenSpec.ofChange fnExactEpochsOfWrong)

/-- 'laws.FnExactFitsFirst': WHATEVER THE INPUT: true; the input reads as it did. -/
def fnExactFitsFirstSpec : ChangeSpec := { name := "fnExactFitsFirst", fn := fun _ => fun
  | [d1, d2] => { results := [.lit (.bool true)], args := [d1, d2] }
  | _ => none }
def fnExactFitsFirstRow : OpenClaim := { program := "ytbjambmdononiaa", sum := "93f0bda9e2e1d5431df533083bdde37fc167efaafb0bf5def0d11a812f6afe0a", func := "loop.example/g00960/laws.FnExactFitsFirst", spec := "fnExactFitsFirst", apart := false }
def FnExactFitsFirstSaid : Prop := fnExactFitsFirstRow.holds Try.pinned (OpenSpec.ofChange fnExactFitsFirstSpec)

/-- ITS FALSE NEIGHBOUR: 'it returns false'. Refute it at one input. -/
def fnExactFitsFirstWrong : ChangeSpec := { name := "fnExactFitsFirst", fn := fun _ => fun
  | [d1, d2] => { results := [.lit (.bool false)], args := [d1, d2] }
  | _ => none }
def FnExactFitsFirstWrongFalsely : Prop := fnExactFitsFirstRow.holds Try.pinned (OpenSpec.ofChange fnExactFitsFirstWrong)

/-- 'laws.FnExactMixerOk': WHATEVER THE INPUT: true; the input reads as it did. -/
def fnExactMixerOkSpec : ChangeSpec := { name := "fnExactMixerOk", fn := fun _ => fun
  | [d] => { results := [.lit (.bool true)], args := [d] }
  | _ => none }
def fnExactMixerOkRow : OpenClaim := { program := "ytbjambmdononiaa", sum := "93f0bda9e2e1d5431df533083bdde37fc167efaafb0bf5def0d11a812f6afe0a", func := "loop.example/g00960/laws.FnExactMixerOk", spec := "fnExactMixerOk", apart := false }
def FnExactMixerOkSaid : Prop := fnExactMixerOkRow.holds Try.pinned (OpenSpec.ofChange fnExactMixerOkSpec)

/-- ITS FALSE NEIGHBOUR: 'it returns false'. Refute it at one input. -/
def fnExactMixerOkWrong : ChangeSpec := { name := "fnExactMixerOk", fn := fun _ => fun
  | [d] => { results := [.lit (.bool false)], args := [d] }
  | _ => none }
def FnExactMixerOkWrongFalsely : Prop := fnExactMixerOkRow.holds Try.pinned (OpenSpec.ofChange fnExactMixerOkWrong)

/-- 'laws.FnStitched': WHATEVER THE INPUT: true; the input reads as it did. -/
def fnStitchedSpec : ChangeSpec := { name := "fnStitched", fn := fun _ => fun
  | [d] => { results := [.lit (.bool true)], args := [d] }
  | _ => none }
def fnStitchedRow : OpenClaim := { program := "ytbjambmdononiaa", sum := "93f0bda9e2e1d5431df533083bdde37fc167efaafb0bf5def0d11a812f6afe0a", func := "loop.example/g00960/laws.FnStitched", spec := "fnStitched", apart := false }
def FnStitchedSaid : Prop := fnStitchedRow.holds Try.pinned (OpenSpec.ofChange fnStitchedSpec)

/-- ITS FALSE NEIGHBOUR: 'it returns false'. Refute it at one input. -/
def fnStitchedWrong : ChangeSpec := { name := "fnStitched", fn := fun _ => fun
  | [d] => { results := [.lit (.bool false)], args := [d] }
  | _ => none }
def FnStitchedWrongFalsely : Prop := fnStitchedRow.holds Try.pinned (OpenSpec.ofChange fnStitchedWrong)

/-- 'laws.FnExactMixerNew': WHATEVER THE INPUT: true; the input reads as it did. -/
def fnExactMixerNewSpec : ChangeSpec := { name := "fnExactMixerNew", fn := fun _ => fun
  | [d1, d2, d3, d4, d5, d6] => { results := [.lit (.bool true)], args := [d1, d2, d3, d4, d5, d6] }
  | _ => none }
def fnExactMixerNewRow : OpenClaim := { program := "ytbjambmdononiaa", sum := "93f0bda9e2e1d5431df533083bdde37fc167efaafb0bf5def0d11a812f6afe0a", func := "loop.example/g00960/laws.FnExactMixerNew", spec := "fnExactMixerNew", apart := false }
def FnExactMixerNewSaid : Prop := fnExactMixerNewRow.holds Try.pinned (OpenSpec.ofChange fnExactMixerNewSpec)

/-- ITS FALSE NEIGHBOUR: 'it returns false'. Refute it at one input. -/
def fnExactMixerNewWrong : ChangeSpec := { name := "fnExactMixerNew", fn := fun _ => fun
  | [d1, d2, d3, d4, d5, d6] => { results := [.lit (.bool false)], args := [d1, d2, d3, d4, d5, d6] }
  | _ => none }
def FnExactMixerNewWrongFalsely : Prop := fnExactMixerNewRow.holds Try.pinned (OpenSpec.ofChange fnExactMixerNewWrong)

/-- 'laws.FnExactSightOf': WHATEVER THE INPUT: true; the input reads as it did. -/
def fnExactSightOfSpec : ChangeSpec := { name := "fnExactSightOf", fn := fun _ => fun
  | [d1, d2, d3] => { results := [.lit (.bool true)], args := [d1, d2, d3] }
  | _ => none }
def fnExactSightOfRow : OpenClaim := { program := "ytbjambmdononiaa", sum := "93f0bda9e2e1d5431df533083bdde37fc167efaafb0bf5def0d11a812f6afe0a", func := "loop.example/g00960/laws.FnExactSightOf", spec := "fnExactSightOf", apart := false }
def FnExactSightOfSaid : Prop := fnExactSightOfRow.holds Try.pinned (OpenSpec.ofChange fnExactSightOfSpec)

/-- ITS FALSE NEIGHBOUR: 'it returns false'. Refute it at one input. -/
def fnExactSightOfWrong : ChangeSpec := { name := "fnExactSightOf", fn := fun _ => fun
  | [d1, d2, d3] => { results := [.lit (.bool false)], args := [d1, d2, d3] }
  | _ => none }
def FnExactSightOfWrongFalsely : Prop := fnExactSightOfRow.holds Try.pinned (OpenSpec.ofChange fnExactSightOfWrong)

/-- 'laws.FnExactLiveAt': WHATEVER THE INPUT: true; the input reads as it did. -/
def fnExactLiveAtSpec : ChangeSpec := { name := "fnExactLiveAt", fn := fun _ => fun
  | [d1, d2, d3] => { results := [.lit (.bool true)], args := [d1, d2, d3] }
  | _ => none }
def fnExactLiveAtRow : OpenClaim := { program := "ytbjambmdononiaa", sum := "93f0bda9e2e1d5431df533083bdde37fc167efaafb0bf5def0d11a812f6afe0a", func := "loop.example/g00960/laws.FnExactLiveAt", spec := "fnExactLiveAt", apart := false }
def FnExactLiveAtSaid : Prop := fnExactLiveAtRow.holds Try.pinned (OpenSpec.ofChange fnExactLiveAtSpec)

/-- ITS FALSE NEIGHBOUR: 'it returns false'. Refute it at one input. -/
def fnExactLiveAtWrong : ChangeSpec := { name := "fnExactLiveAt", fn := fun _ => fun
  | [d1, d2, d3] => { results := [.lit (.bool false)], args := [d1, d2, d3] }
  | _ => none }
def FnExactLiveAtWrongFalsely : Prop := fnExactLiveAtRow.holds Try.pinned (OpenSpec.ofChange fnExactLiveAtWrong)

/- THE SECOND FORM. 'bulk': how many values and letters a reading holds, each counted each time it is reached (what is shared counts as often as it is met; a slice's spare places count too). A statement '..UptoSaid' is the law's where the arguments, and the package variables that the reading takes, are together of bulk at most 1048576: NARROWER than '..Said'. Prove '..Said' where nothing that the law and all that it calls make is longer than what came in: it says more and counts as full. Else prove '..UptoSaid'. A law counts once. -/
mutual
def uptoBulk {H : Type} : DataW H → Nat
  | .lit (.string bytes) => bytes.length + 1
  | .lit _ => 1
  | .nil => 1
  | .ptr d => uptoBulk d + 1
  | .slice elems spare => uptoBulkAll elems + uptoBulkAll spare + 1
  | .agg parts => uptoBulkAll parts + 1
  | .iface _ d => uptoBulk d + 1
  | .map entries => uptoBulkEntries entries + 1
  | .held _ => 1
def uptoBulkAll {H : Type} : List (DataW H) → Nat
  | [] => 0
  | d :: r => uptoBulk d + uptoBulkAll r
def uptoBulkEntries {H : Type} : List (Lit × DataW H) → Nat
  | [] => 0
  | x :: r => uptoBulkEntry x + uptoBulkEntries r
def uptoBulkEntry {H : Type} : Lit × DataW H → Nat
  | (.string bytes, d) => bytes.length + uptoBulk d + 1
  | (_, d) => uptoBulk d + 1
 end
def uptoSmall : (H : Type) → List (DataW H) → Bool := fun _ ds => decide (uptoBulkAll ds ≤ 1048576)
def OpenSpec.upto (s : _root_.Go.ChangeSpec) : _root_.Go.OpenSpec := { _root_.Go.OpenSpec.ofChange s with cond := some uptoSmall }

/-- 'laws.FnExactPictureParts', WHERE WHAT IT READS IS OF BULK AT MOST 1048576: true; the input reads as it did. -/
def fnExactPicturePartsUptoRow : OpenClaim := { program := "ytbjambmdononiaa", sum := "93f0bda9e2e1d5431df533083bdde37fc167efaafb0bf5def0d11a812f6afe0a", func := "loop.example/g00960/laws.FnExactPictureParts", spec := "fnExactPictureParts", apart := false, narrowed := true }
def FnExactPicturePartsUptoSaid : Prop := fnExactPicturePartsUptoRow.holds Try.pinned (OpenSpec.upto fnExactPicturePartsSpec)

/-- 'laws.FnExactPictureUnits', WHERE WHAT IT READS IS OF BULK AT MOST 1048576: true; the input reads as it did. -/
def fnExactPictureUnitsUptoRow : OpenClaim := { program := "ytbjambmdononiaa", sum := "93f0bda9e2e1d5431df533083bdde37fc167efaafb0bf5def0d11a812f6afe0a", func := "loop.example/g00960/laws.FnExactPictureUnits", spec := "fnExactPictureUnits", apart := false, narrowed := true }
def FnExactPictureUnitsUptoSaid : Prop := fnExactPictureUnitsUptoRow.holds Try.pinned (OpenSpec.upto fnExactPictureUnitsSpec)

/-- 'laws.FnExactConforms', WHERE WHAT IT READS IS OF BULK AT MOST 1048576: true; the input reads as it did. -/
def fnExactConformsUptoRow : OpenClaim := { program := "ytbjambmdononiaa", sum := "93f0bda9e2e1d5431df533083bdde37fc167efaafb0bf5def0d11a812f6afe0a", func := "loop.example/g00960/laws.FnExactConforms", spec := "fnExactConforms", apart := false, narrowed := true }
def FnExactConformsUptoSaid : Prop := fnExactConformsUptoRow.holds Try.pinned (OpenSpec.upto fnExactConformsSpec)

/-- 'laws.FnLostSlice', WHERE WHAT IT READS IS OF BULK AT MOST 1048576: true; the input reads as it did. -/
def fnLostSliceUptoRow : OpenClaim := { program := "ytbjambmdononiaa", sum := "93f0bda9e2e1d5431df533083bdde37fc167efaafb0bf5def0d11a812f6afe0a", func := "loop.example/g00960/laws.FnLostSlice", spec := "fnLostSlice", apart := false, narrowed := true }
def FnLostSliceUptoSaid : Prop := fnLostSliceUptoRow.holds Try.pinned (OpenSpec.upto fnLostSliceSpec)

/-- 'laws.FnExactPlanOk', WHERE WHAT IT READS IS OF BULK AT MOST 1048576: true; the input reads as it did. -/
def fnExactPlanOkUptoRow : OpenClaim := { program := "ytbjambmdononiaa", sum := "93f0bda9e2e1d5431df533083bdde37fc167efaafb0bf5def0d11a812f6afe0a", func := "loop.example/g00960/laws.FnExactPlanOk", spec := "fnExactPlanOk", apart := false, narrowed := true }
def FnExactPlanOkUptoSaid : Prop := fnExactPlanOkUptoRow.holds Try.pinned (OpenSpec.upto fnExactPlanOkSpec)

/-- 'laws.FnExactEpochsOf', WHERE WHAT IT READS IS OF BULK AT MOST 1048576: true; the input reads as it did. -/
def fnExactEpochsOfUptoRow : OpenClaim := { program := "ytbjambmdononiaa", sum := "93f0bda9e2e1d5431df533083bdde37fc167efaafb0bf5def0d11a812f6afe0a", func := "loop.example/g00960/laws.FnExactEpochsOf", spec := "fnExactEpochsOf", apart := false, narrowed := true }
def FnExactEpochsOfUptoSaid : Prop := fnExactEpochsOfUptoRow.holds Try.pinned (OpenSpec.upto fnExactEpochsOfSpec)

/-- 'laws.FnExactFitsFirst', WHERE WHAT IT READS IS OF BULK AT MOST 1048576: true; the input reads as it did. -/
def fnExactFitsFirstUptoRow : OpenClaim := { program := "ytbjambmdononiaa", sum := "93f0bda9e2e1d5431df533083bdde37fc167efaafb0bf5def0d11a812f6afe0a", func := "loop.example/g00960/laws.FnExactFitsFirst", spec := "fnExactFitsFirst", apart := false, narrowed := true }
def FnExactFitsFirstUptoSaid : Prop := fnExactFitsFirstUptoRow.holds Try.pinned (OpenSpec.upto fnExactFitsFirstSpec)

/-- 'laws.FnExactMixerOk', WHERE WHAT IT READS IS OF BULK AT MOST 1048576: true; the input reads as it did. -/
def fnExactMixerOkUptoRow : OpenClaim := { program := "ytbjambmdononiaa", sum := "93f0bda9e2e1d5431df533083bdde37fc167efaafb0bf5def0d11a812f6afe0a", func := "loop.example/g00960/laws.FnExactMixerOk", spec := "fnExactMixerOk", apart := false, narrowed := true }
def FnExactMixerOkUptoSaid : Prop := fnExactMixerOkUptoRow.holds Try.pinned (OpenSpec.upto fnExactMixerOkSpec)

/-- 'laws.FnStitched', WHERE WHAT IT READS IS OF BULK AT MOST 1048576: true; the input reads as it did. -/
def fnStitchedUptoRow : OpenClaim := { program := "ytbjambmdononiaa", sum := "93f0bda9e2e1d5431df533083bdde37fc167efaafb0bf5def0d11a812f6afe0a", func := "loop.example/g00960/laws.FnStitched", spec := "fnStitched", apart := false, narrowed := true }
def FnStitchedUptoSaid : Prop := fnStitchedUptoRow.holds Try.pinned (OpenSpec.upto fnStitchedSpec)

/-- 'laws.FnExactMixerNew', WHERE WHAT IT READS IS OF BULK AT MOST 1048576: true; the input reads as it did. -/
def fnExactMixerNewUptoRow : OpenClaim := { program := "ytbjambmdononiaa", sum := "93f0bda9e2e1d5431df533083bdde37fc167efaafb0bf5def0d11a812f6afe0a", func := "loop.example/g00960/laws.FnExactMixerNew", spec := "fnExactMixerNew", apart := false, narrowed := true }
def FnExactMixerNewUptoSaid : Prop := fnExactMixerNewUptoRow.holds Try.pinned (OpenSpec.upto fnExactMixerNewSpec)

/-- 'laws.FnExactSightOf', WHERE WHAT IT READS IS OF BULK AT MOST 1048576: true; the input reads as it did. -/
def fnExactSightOfUptoRow : OpenClaim := { program := "ytbjambmdononiaa", sum := "93f0bda9e2e1d5431df533083bdde37fc167efaafb0bf5def0d11a812f6afe0a", func := "loop.example/g00960/laws.FnExactSightOf", spec := "fnExactSightOf", apart := false, narrowed := true }
def FnExactSightOfUptoSaid : Prop := fnExactSightOfUptoRow.holds Try.pinned (OpenSpec.upto fnExactSightOfSpec)

/-- 'laws.FnExactLiveAt', WHERE WHAT IT READS IS OF BULK AT MOST 1048576: true; the input reads as it did. -/
def fnExactLiveAtUptoRow : OpenClaim := { program := "ytbjambmdononiaa", sum := "93f0bda9e2e1d5431df533083bdde37fc167efaafb0bf5def0d11a812f6afe0a", func := "loop.example/g00960/laws.FnExactLiveAt", spec := "fnExactLiveAt", apart := false, narrowed := true }
def FnExactLiveAtUptoSaid : Prop := fnExactLiveAtUptoRow.holds Try.pinned (OpenSpec.upto fnExactLiveAtSpec)

end Rows
end Go.Proofs.Ytbjambmdononiaa
