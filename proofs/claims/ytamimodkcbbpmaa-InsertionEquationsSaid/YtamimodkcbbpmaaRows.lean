/-
  NARROWER THAN 'FOR EVERY INPUT', by the rows' own cells (each row's printed sentence says how): DerivationValidMatchesReference: loops · DerivationCompareMatchesReference: loops · DerivationTotalOrder: loops · DerivationBestIsLeast: loops · DerivationMonotone: loops · InsertionLowerBound: loops · ForestContains: loops · ForestDerivations: loops · ForestMembers: loops.
  DERIVED. THE GIVEN ROWS OF THIS SEAT. 22 by the template 'for every input the law returns true; each argument reads behind the call as it read before'; 0 by the template 'total and deterministic' (their statements: YtamimodkcbbpmaaTotals.lean).
  GIVEN WITH THE SEED: the statements are not yours to turn. If you find one false, say at which input.
  Laid BY PROGRAM, IN A SANDBOX (cutbox-rows.mjs): the forced cells as the released guide's own fill.sh prints them over the translation 9fdbb7b4756b548c… (all of the seat's roots in one cut). By AI agents, Wed Nov 11 2026. No macro, syntax, notation, axiom, sorry.
-/
import Derived.Test.YtamimodkcbbpmaaChecked
import GoSem.Claim
import GoSem.ClaimJoined
import GoSem.ClaimMapViews
import Derived.JoinedTies
import Derived.KernelRfl
namespace Go.Proofs.Ytamimodkcbbpmaa
/- THE CELL 'sum', in the pinned program and in every row, IS THE sha256 OF THE DUMP (.gsa) THAT YtamimodkcbbpmaaProg.lean LOADS. Nothing in Lean hashes anything: it is a label: what it is worth is what the hold of that sum in a sandbox is worth. -/
noncomputable def Try.pinned : Pinned := { name := "ytamimodkcbbpmaa", sum := "9fdbb7b4756b548ce2d76b0e4851f9f5c4a2d4817245568ce9667d76af1a78e1", checked := Try.checked }
namespace Rows
def none {H : Type} : Left H := { results := [], args := [] }

/-- 'emendatelaw30.DerivationValidMatchesReference': WHATEVER THE INPUT: true; the input reads as it did. -/
def derivationValidMatchesReferenceSpec : ChangeSpec := { name := "derivationValidMatchesReference", fn := fun _ => fun
  | [d] => { results := [.lit (.bool true)], args := [d] }
  | _ => none }
def derivationValidMatchesReferenceRow : OpenClaim := { program := "ytamimodkcbbpmaa", sum := "9fdbb7b4756b548ce2d76b0e4851f9f5c4a2d4817245568ce9667d76af1a78e1", func := "emendate/emendatelaw30.DerivationValidMatchesReference", spec := "derivationValidMatchesReference", unfollowed := true, recurses := true, loops := true, apart := false }
def DerivationValidMatchesReferenceSaid : Prop := derivationValidMatchesReferenceRow.holds Try.pinned (OpenSpec.ofChange derivationValidMatchesReferenceSpec)

/-- ITS FALSE NEIGHBOUR: 'it returns false'. Refute it at one input. -/
def derivationValidMatchesReferenceWrong : ChangeSpec := { name := "derivationValidMatchesReference", fn := fun _ => fun
  | [d] => { results := [.lit (.bool false)], args := [d] }
  | _ => none }
def DerivationValidMatchesReferenceWrongFalsely : Prop := derivationValidMatchesReferenceRow.holds Try.pinned (OpenSpec.ofChange derivationValidMatchesReferenceWrong)

/-- 'emendatelaw30.DerivationCompareMatchesReference': WHATEVER THE INPUT: true; the input reads as it did. -/
def derivationCompareMatchesReferenceSpec : ChangeSpec := { name := "derivationCompareMatchesReference", fn := fun _ => fun
  | [d] => { results := [.lit (.bool true)], args := [d] }
  | _ => none }
def derivationCompareMatchesReferenceRow : OpenClaim := { program := "ytamimodkcbbpmaa", sum := "9fdbb7b4756b548ce2d76b0e4851f9f5c4a2d4817245568ce9667d76af1a78e1", func := "emendate/emendatelaw30.DerivationCompareMatchesReference", spec := "derivationCompareMatchesReference", unfollowed := true, recurses := true, loops := true, apart := false }
def DerivationCompareMatchesReferenceSaid : Prop := derivationCompareMatchesReferenceRow.holds Try.pinned (OpenSpec.ofChange derivationCompareMatchesReferenceSpec)

/-- ITS FALSE NEIGHBOUR: 'it returns false'. Refute it at one input. -/
def derivationCompareMatchesReferenceWrong : ChangeSpec := { name := "derivationCompareMatchesReference", fn := fun _ => fun
  | [d] => { results := [.lit (.bool false)], args := [d] }
  | _ => none }
def DerivationCompareMatchesReferenceWrongFalsely : Prop := derivationCompareMatchesReferenceRow.holds Try.pinned (OpenSpec.ofChange derivationCompareMatchesReferenceWrong)

/-- 'emendatelaw30.DerivationTotalOrder': WHATEVER THE INPUT: true; the input reads as it did. -/
def derivationTotalOrderSpec : ChangeSpec := { name := "derivationTotalOrder", fn := fun _ => fun
  | [d] => { results := [.lit (.bool true)], args := [d] }
  | _ => none }
def derivationTotalOrderRow : OpenClaim := { program := "ytamimodkcbbpmaa", sum := "9fdbb7b4756b548ce2d76b0e4851f9f5c4a2d4817245568ce9667d76af1a78e1", func := "emendate/emendatelaw30.DerivationTotalOrder", spec := "derivationTotalOrder", unfollowed := true, recurses := true, loops := true, apart := false }
def DerivationTotalOrderSaid : Prop := derivationTotalOrderRow.holds Try.pinned (OpenSpec.ofChange derivationTotalOrderSpec)

/-- ITS FALSE NEIGHBOUR: 'it returns false'. Refute it at one input. -/
def derivationTotalOrderWrong : ChangeSpec := { name := "derivationTotalOrder", fn := fun _ => fun
  | [d] => { results := [.lit (.bool false)], args := [d] }
  | _ => none }
def DerivationTotalOrderWrongFalsely : Prop := derivationTotalOrderRow.holds Try.pinned (OpenSpec.ofChange derivationTotalOrderWrong)

/-- 'emendatelaw30.DerivationBestMatchesReference': WHATEVER THE INPUT: true; the input reads as it did. -/
def derivationBestMatchesReferenceSpec : ChangeSpec := { name := "derivationBestMatchesReference", fn := fun _ => fun
  | [d1, d2] => { results := [.lit (.bool true)], args := [d1, d2] }
  | _ => none }
def derivationBestMatchesReferenceRow : OpenClaim := { program := "ytamimodkcbbpmaa", sum := "9fdbb7b4756b548ce2d76b0e4851f9f5c4a2d4817245568ce9667d76af1a78e1", func := "emendate/emendatelaw30.DerivationBestMatchesReference", spec := "derivationBestMatchesReference", unfollowed := true, recurses := true, apart := false }
def DerivationBestMatchesReferenceSaid : Prop := derivationBestMatchesReferenceRow.holds Try.pinned (OpenSpec.ofChange derivationBestMatchesReferenceSpec)

/-- ITS FALSE NEIGHBOUR: 'it returns false'. Refute it at one input. -/
def derivationBestMatchesReferenceWrong : ChangeSpec := { name := "derivationBestMatchesReference", fn := fun _ => fun
  | [d1, d2] => { results := [.lit (.bool false)], args := [d1, d2] }
  | _ => none }
def DerivationBestMatchesReferenceWrongFalsely : Prop := derivationBestMatchesReferenceRow.holds Try.pinned (OpenSpec.ofChange derivationBestMatchesReferenceWrong)

/-- 'emendatelaw30.DerivationBestIsLeast': WHATEVER THE INPUT: true; the input reads as it did. -/
def derivationBestIsLeastSpec : ChangeSpec := { name := "derivationBestIsLeast", fn := fun _ => fun
  | [d] => { results := [.lit (.bool true)], args := [d] }
  | _ => none }
def derivationBestIsLeastRow : OpenClaim := { program := "ytamimodkcbbpmaa", sum := "9fdbb7b4756b548ce2d76b0e4851f9f5c4a2d4817245568ce9667d76af1a78e1", func := "emendate/emendatelaw30.DerivationBestIsLeast", spec := "derivationBestIsLeast", unfollowed := true, recurses := true, loops := true, apart := false }
def DerivationBestIsLeastSaid : Prop := derivationBestIsLeastRow.holds Try.pinned (OpenSpec.ofChange derivationBestIsLeastSpec)

/-- ITS FALSE NEIGHBOUR: 'it returns false'. Refute it at one input. -/
def derivationBestIsLeastWrong : ChangeSpec := { name := "derivationBestIsLeast", fn := fun _ => fun
  | [d] => { results := [.lit (.bool false)], args := [d] }
  | _ => none }
def DerivationBestIsLeastWrongFalsely : Prop := derivationBestIsLeastRow.holds Try.pinned (OpenSpec.ofChange derivationBestIsLeastWrong)

/-- 'emendatelaw32.ForestIdempotent': WHATEVER THE INPUT: true; the input reads as it did. -/
def forestIdempotentSpec : ChangeSpec := { name := "forestIdempotent", fn := fun _ => fun
  | [d1, d2] => { results := [.lit (.bool true)], args := [d1, d2] }
  | _ => none }
def forestIdempotentRow : OpenClaim := { program := "ytamimodkcbbpmaa", sum := "9fdbb7b4756b548ce2d76b0e4851f9f5c4a2d4817245568ce9667d76af1a78e1", func := "emendate/emendatelaw32.ForestIdempotent", spec := "forestIdempotent", unfollowed := true, recurses := true, apart := false }
def ForestIdempotentSaid : Prop := forestIdempotentRow.holds Try.pinned (OpenSpec.ofChange forestIdempotentSpec)

/-- ITS FALSE NEIGHBOUR: 'it returns false'. Refute it at one input. -/
def forestIdempotentWrong : ChangeSpec := { name := "forestIdempotent", fn := fun _ => fun
  | [d1, d2] => { results := [.lit (.bool false)], args := [d1, d2] }
  | _ => none }
def ForestIdempotentWrongFalsely : Prop := forestIdempotentRow.holds Try.pinned (OpenSpec.ofChange forestIdempotentWrong)

/-- 'emendatelaw30.DerivationMonotone': WHATEVER THE INPUT: true; the input reads as it did. -/
def derivationMonotoneSpec : ChangeSpec := { name := "derivationMonotone", fn := fun _ => fun
  | [d] => { results := [.lit (.bool true)], args := [d] }
  | _ => none }
def derivationMonotoneRow : OpenClaim := { program := "ytamimodkcbbpmaa", sum := "9fdbb7b4756b548ce2d76b0e4851f9f5c4a2d4817245568ce9667d76af1a78e1", func := "emendate/emendatelaw30.DerivationMonotone", spec := "derivationMonotone", unfollowed := true, recurses := true, loops := true, apart := false }
def DerivationMonotoneSaid : Prop := derivationMonotoneRow.holds Try.pinned (OpenSpec.ofChange derivationMonotoneSpec)

/-- ITS FALSE NEIGHBOUR: 'it returns false'. Refute it at one input. -/
def derivationMonotoneWrong : ChangeSpec := { name := "derivationMonotone", fn := fun _ => fun
  | [d] => { results := [.lit (.bool false)], args := [d] }
  | _ => none }
def DerivationMonotoneWrongFalsely : Prop := derivationMonotoneRow.holds Try.pinned (OpenSpec.ofChange derivationMonotoneWrong)

/-- 'emendatelaw32.ForestBest': WHATEVER THE INPUT: true; the input reads as it did. -/
def forestBestSpec : ChangeSpec := { name := "forestBest", fn := fun _ => fun
  | [d1, d2] => { results := [.lit (.bool true)], args := [d1, d2] }
  | _ => none }
def forestBestRow : OpenClaim := { program := "ytamimodkcbbpmaa", sum := "9fdbb7b4756b548ce2d76b0e4851f9f5c4a2d4817245568ce9667d76af1a78e1", func := "emendate/emendatelaw32.ForestBest", spec := "forestBest", unfollowed := true, recurses := true, apart := false }
def ForestBestSaid : Prop := forestBestRow.holds Try.pinned (OpenSpec.ofChange forestBestSpec)

/-- ITS FALSE NEIGHBOUR: 'it returns false'. Refute it at one input. -/
def forestBestWrong : ChangeSpec := { name := "forestBest", fn := fun _ => fun
  | [d1, d2] => { results := [.lit (.bool false)], args := [d1, d2] }
  | _ => none }
def ForestBestWrongFalsely : Prop := forestBestRow.holds Try.pinned (OpenSpec.ofChange forestBestWrong)

/-- 'emendatelaw30.DerivationBestSubtrees': WHATEVER THE INPUT: true; the input reads as it did. -/
def derivationBestSubtreesSpec : ChangeSpec := { name := "derivationBestSubtrees", fn := fun _ => fun
  | [d1, d2] => { results := [.lit (.bool true)], args := [d1, d2] }
  | _ => none }
def derivationBestSubtreesRow : OpenClaim := { program := "ytamimodkcbbpmaa", sum := "9fdbb7b4756b548ce2d76b0e4851f9f5c4a2d4817245568ce9667d76af1a78e1", func := "emendate/emendatelaw30.DerivationBestSubtrees", spec := "derivationBestSubtrees", unfollowed := true, recurses := true, apart := false }
def DerivationBestSubtreesSaid : Prop := derivationBestSubtreesRow.holds Try.pinned (OpenSpec.ofChange derivationBestSubtreesSpec)

/-- ITS FALSE NEIGHBOUR: 'it returns false'. Refute it at one input. -/
def derivationBestSubtreesWrong : ChangeSpec := { name := "derivationBestSubtrees", fn := fun _ => fun
  | [d1, d2] => { results := [.lit (.bool false)], args := [d1, d2] }
  | _ => none }
def DerivationBestSubtreesWrongFalsely : Prop := derivationBestSubtreesRow.holds Try.pinned (OpenSpec.ofChange derivationBestSubtreesWrong)

/-- 'emendatelaw38.InsertionValues': WHATEVER THE INPUT: true; the input reads as it did. -/
def insertionValuesSpec : ChangeSpec := { name := "insertionValues", fn := fun _ => fun
  | [d1, d2] => { results := [.lit (.bool true)], args := [d1, d2] }
  | _ => none }
def insertionValuesRow : OpenClaim := { program := "ytamimodkcbbpmaa", sum := "9fdbb7b4756b548ce2d76b0e4851f9f5c4a2d4817245568ce9667d76af1a78e1", func := "emendate/emendatelaw38.InsertionValues", spec := "insertionValues", unfollowed := true, recurses := true, apart := false }
def InsertionValuesSaid : Prop := insertionValuesRow.holds Try.pinned (OpenSpec.ofChange insertionValuesSpec)

/-- ITS FALSE NEIGHBOUR: 'it returns false'. Refute it at one input. -/
def insertionValuesWrong : ChangeSpec := { name := "insertionValues", fn := fun _ => fun
  | [d1, d2] => { results := [.lit (.bool false)], args := [d1, d2] }
  | _ => none }
def InsertionValuesWrongFalsely : Prop := insertionValuesRow.holds Try.pinned (OpenSpec.ofChange insertionValuesWrong)

/-- 'emendatelaw38.InsertionParse': WHATEVER THE INPUT: true; the input reads as it did. -/
def insertionParseSpec : ChangeSpec := { name := "insertionParse", fn := fun _ => fun
  | [d1, d2, d3] => { results := [.lit (.bool true)], args := [d1, d2, d3] }
  | _ => none }
def insertionParseRow : OpenClaim := { program := "ytamimodkcbbpmaa", sum := "9fdbb7b4756b548ce2d76b0e4851f9f5c4a2d4817245568ce9667d76af1a78e1", func := "emendate/emendatelaw38.InsertionParse", spec := "insertionParse", unfollowed := true, recurses := true, apart := false }
def InsertionParseSaid : Prop := insertionParseRow.holds Try.pinned (OpenSpec.ofChange insertionParseSpec)

/-- ITS FALSE NEIGHBOUR: 'it returns false'. Refute it at one input. -/
def insertionParseWrong : ChangeSpec := { name := "insertionParse", fn := fun _ => fun
  | [d1, d2, d3] => { results := [.lit (.bool false)], args := [d1, d2, d3] }
  | _ => none }
def InsertionParseWrongFalsely : Prop := insertionParseRow.holds Try.pinned (OpenSpec.ofChange insertionParseWrong)

/-- 'emendatelaw38.InsertionAttained': WHATEVER THE INPUT: true; the input reads as it did. -/
def insertionAttainedSpec : ChangeSpec := { name := "insertionAttained", fn := fun _ => fun
  | [d1, d2, d3] => { results := [.lit (.bool true)], args := [d1, d2, d3] }
  | _ => none }
def insertionAttainedRow : OpenClaim := { program := "ytamimodkcbbpmaa", sum := "9fdbb7b4756b548ce2d76b0e4851f9f5c4a2d4817245568ce9667d76af1a78e1", func := "emendate/emendatelaw38.InsertionAttained", spec := "insertionAttained", unfollowed := true, recurses := true, apart := false }
def InsertionAttainedSaid : Prop := insertionAttainedRow.holds Try.pinned (OpenSpec.ofChange insertionAttainedSpec)

/-- ITS FALSE NEIGHBOUR: 'it returns false'. Refute it at one input. -/
def insertionAttainedWrong : ChangeSpec := { name := "insertionAttained", fn := fun _ => fun
  | [d1, d2, d3] => { results := [.lit (.bool false)], args := [d1, d2, d3] }
  | _ => none }
def InsertionAttainedWrongFalsely : Prop := insertionAttainedRow.holds Try.pinned (OpenSpec.ofChange insertionAttainedWrong)

/-- 'emendatelaw38.InsertionLowerBound': WHATEVER THE INPUT: true; the input reads as it did. -/
def insertionLowerBoundSpec : ChangeSpec := { name := "insertionLowerBound", fn := fun _ => fun
  | [d1, d2, d3] => { results := [.lit (.bool true)], args := [d1, d2, d3] }
  | _ => none }
def insertionLowerBoundRow : OpenClaim := { program := "ytamimodkcbbpmaa", sum := "9fdbb7b4756b548ce2d76b0e4851f9f5c4a2d4817245568ce9667d76af1a78e1", func := "emendate/emendatelaw38.InsertionLowerBound", spec := "insertionLowerBound", unfollowed := true, recurses := true, loops := true, apart := false }
def InsertionLowerBoundSaid : Prop := insertionLowerBoundRow.holds Try.pinned (OpenSpec.ofChange insertionLowerBoundSpec)

/-- ITS FALSE NEIGHBOUR: 'it returns false'. Refute it at one input. -/
def insertionLowerBoundWrong : ChangeSpec := { name := "insertionLowerBound", fn := fun _ => fun
  | [d1, d2, d3] => { results := [.lit (.bool false)], args := [d1, d2, d3] }
  | _ => none }
def InsertionLowerBoundWrongFalsely : Prop := insertionLowerBoundRow.holds Try.pinned (OpenSpec.ofChange insertionLowerBoundWrong)

/-- 'emendatelaw38.InsertionMonotone': WHATEVER THE INPUT: true; the input reads as it did. -/
def insertionMonotoneSpec : ChangeSpec := { name := "insertionMonotone", fn := fun _ => fun
  | [d1, d2, d3] => { results := [.lit (.bool true)], args := [d1, d2, d3] }
  | _ => none }
def insertionMonotoneRow : OpenClaim := { program := "ytamimodkcbbpmaa", sum := "9fdbb7b4756b548ce2d76b0e4851f9f5c4a2d4817245568ce9667d76af1a78e1", func := "emendate/emendatelaw38.InsertionMonotone", spec := "insertionMonotone", unfollowed := true, recurses := true, apart := false }
def InsertionMonotoneSaid : Prop := insertionMonotoneRow.holds Try.pinned (OpenSpec.ofChange insertionMonotoneSpec)

/-- ITS FALSE NEIGHBOUR: 'it returns false'. Refute it at one input. -/
def insertionMonotoneWrong : ChangeSpec := { name := "insertionMonotone", fn := fun _ => fun
  | [d1, d2, d3] => { results := [.lit (.bool false)], args := [d1, d2, d3] }
  | _ => none }
def InsertionMonotoneWrongFalsely : Prop := insertionMonotoneRow.holds Try.pinned (OpenSpec.ofChange insertionMonotoneWrong)

/-- 'emendatelaw38.InsertionEquations': WHATEVER THE INPUT: true; the input reads as it did. -/
def insertionEquationsSpec : ChangeSpec := { name := "insertionEquations", fn := fun _ => fun
  | [d1, d2] => { results := [.lit (.bool true)], args := [d1, d2] }
  | _ => none }
def insertionEquationsRow : OpenClaim := { program := "ytamimodkcbbpmaa", sum := "9fdbb7b4756b548ce2d76b0e4851f9f5c4a2d4817245568ce9667d76af1a78e1", func := "emendate/emendatelaw38.InsertionEquations", spec := "insertionEquations", unfollowed := true, recurses := true, apart := false }
def InsertionEquationsSaid : Prop := insertionEquationsRow.holds Try.pinned (OpenSpec.ofChange insertionEquationsSpec)

/-- ITS FALSE NEIGHBOUR: 'it returns false'. Refute it at one input. -/
def insertionEquationsWrong : ChangeSpec := { name := "insertionEquations", fn := fun _ => fun
  | [d1, d2] => { results := [.lit (.bool false)], args := [d1, d2] }
  | _ => none }
def InsertionEquationsWrongFalsely : Prop := insertionEquationsRow.holds Try.pinned (OpenSpec.ofChange insertionEquationsWrong)

/-- 'emendatelaw32.ForestTight': WHATEVER THE INPUT: true; the input reads as it did. -/
def forestTightSpec : ChangeSpec := { name := "forestTight", fn := fun _ => fun
  | [d1, d2] => { results := [.lit (.bool true)], args := [d1, d2] }
  | _ => none }
def forestTightRow : OpenClaim := { program := "ytamimodkcbbpmaa", sum := "9fdbb7b4756b548ce2d76b0e4851f9f5c4a2d4817245568ce9667d76af1a78e1", func := "emendate/emendatelaw32.ForestTight", spec := "forestTight", unfollowed := true, recurses := true, apart := false }
def ForestTightSaid : Prop := forestTightRow.holds Try.pinned (OpenSpec.ofChange forestTightSpec)

/-- ITS FALSE NEIGHBOUR: 'it returns false'. Refute it at one input. -/
def forestTightWrong : ChangeSpec := { name := "forestTight", fn := fun _ => fun
  | [d1, d2] => { results := [.lit (.bool false)], args := [d1, d2] }
  | _ => none }
def ForestTightWrongFalsely : Prop := forestTightRow.holds Try.pinned (OpenSpec.ofChange forestTightWrong)

/-- 'emendatelaw32.ForestCount': WHATEVER THE INPUT: true; the input reads as it did. -/
def forestCountSpec : ChangeSpec := { name := "forestCount", fn := fun _ => fun
  | [d1, d2] => { results := [.lit (.bool true)], args := [d1, d2] }
  | _ => none }
def forestCountRow : OpenClaim := { program := "ytamimodkcbbpmaa", sum := "9fdbb7b4756b548ce2d76b0e4851f9f5c4a2d4817245568ce9667d76af1a78e1", func := "emendate/emendatelaw32.ForestCount", spec := "forestCount", unfollowed := true, recurses := true, apart := false }
def ForestCountSaid : Prop := forestCountRow.holds Try.pinned (OpenSpec.ofChange forestCountSpec)

/-- ITS FALSE NEIGHBOUR: 'it returns false'. Refute it at one input. -/
def forestCountWrong : ChangeSpec := { name := "forestCount", fn := fun _ => fun
  | [d1, d2] => { results := [.lit (.bool false)], args := [d1, d2] }
  | _ => none }
def ForestCountWrongFalsely : Prop := forestCountRow.holds Try.pinned (OpenSpec.ofChange forestCountWrong)

/-- 'emendatelaw32.ForestContains': WHATEVER THE INPUT: true; the input reads as it did. -/
def forestContainsSpec : ChangeSpec := { name := "forestContains", fn := fun _ => fun
  | [d1, d2, d3] => { results := [.lit (.bool true)], args := [d1, d2, d3] }
  | _ => none }
def forestContainsRow : OpenClaim := { program := "ytamimodkcbbpmaa", sum := "9fdbb7b4756b548ce2d76b0e4851f9f5c4a2d4817245568ce9667d76af1a78e1", func := "emendate/emendatelaw32.ForestContains", spec := "forestContains", unfollowed := true, recurses := true, loops := true, apart := false }
def ForestContainsSaid : Prop := forestContainsRow.holds Try.pinned (OpenSpec.ofChange forestContainsSpec)

/-- ITS FALSE NEIGHBOUR: 'it returns false'. Refute it at one input. -/
def forestContainsWrong : ChangeSpec := { name := "forestContains", fn := fun _ => fun
  | [d1, d2, d3] => { results := [.lit (.bool false)], args := [d1, d2, d3] }
  | _ => none }
def ForestContainsWrongFalsely : Prop := forestContainsRow.holds Try.pinned (OpenSpec.ofChange forestContainsWrong)

/-- 'emendatelaw32.ForestAcyclic': WHATEVER THE INPUT: true; the input reads as it did. -/
def forestAcyclicSpec : ChangeSpec := { name := "forestAcyclic", fn := fun _ => fun
  | [d1, d2] => { results := [.lit (.bool true)], args := [d1, d2] }
  | _ => none }
def forestAcyclicRow : OpenClaim := { program := "ytamimodkcbbpmaa", sum := "9fdbb7b4756b548ce2d76b0e4851f9f5c4a2d4817245568ce9667d76af1a78e1", func := "emendate/emendatelaw32.ForestAcyclic", spec := "forestAcyclic", unfollowed := true, recurses := true, apart := false }
def ForestAcyclicSaid : Prop := forestAcyclicRow.holds Try.pinned (OpenSpec.ofChange forestAcyclicSpec)

/-- ITS FALSE NEIGHBOUR: 'it returns false'. Refute it at one input. -/
def forestAcyclicWrong : ChangeSpec := { name := "forestAcyclic", fn := fun _ => fun
  | [d1, d2] => { results := [.lit (.bool false)], args := [d1, d2] }
  | _ => none }
def ForestAcyclicWrongFalsely : Prop := forestAcyclicRow.holds Try.pinned (OpenSpec.ofChange forestAcyclicWrong)

/-- 'emendatelaw32.ForestInside': WHATEVER THE INPUT: true; the input reads as it did. -/
def forestInsideSpec : ChangeSpec := { name := "forestInside", fn := fun _ => fun
  | [d1, d2] => { results := [.lit (.bool true)], args := [d1, d2] }
  | _ => none }
def forestInsideRow : OpenClaim := { program := "ytamimodkcbbpmaa", sum := "9fdbb7b4756b548ce2d76b0e4851f9f5c4a2d4817245568ce9667d76af1a78e1", func := "emendate/emendatelaw32.ForestInside", spec := "forestInside", unfollowed := true, recurses := true, apart := false }
def ForestInsideSaid : Prop := forestInsideRow.holds Try.pinned (OpenSpec.ofChange forestInsideSpec)

/-- ITS FALSE NEIGHBOUR: 'it returns false'. Refute it at one input. -/
def forestInsideWrong : ChangeSpec := { name := "forestInside", fn := fun _ => fun
  | [d1, d2] => { results := [.lit (.bool false)], args := [d1, d2] }
  | _ => none }
def ForestInsideWrongFalsely : Prop := forestInsideRow.holds Try.pinned (OpenSpec.ofChange forestInsideWrong)

/-- 'emendatelaw32.ForestDerivations': WHATEVER THE INPUT: true; the input reads as it did. -/
def forestDerivationsSpec : ChangeSpec := { name := "forestDerivations", fn := fun _ => fun
  | [d1, d2, d3] => { results := [.lit (.bool true)], args := [d1, d2, d3] }
  | _ => none }
def forestDerivationsRow : OpenClaim := { program := "ytamimodkcbbpmaa", sum := "9fdbb7b4756b548ce2d76b0e4851f9f5c4a2d4817245568ce9667d76af1a78e1", func := "emendate/emendatelaw32.ForestDerivations", spec := "forestDerivations", unfollowed := true, recurses := true, loops := true, apart := false }
def ForestDerivationsSaid : Prop := forestDerivationsRow.holds Try.pinned (OpenSpec.ofChange forestDerivationsSpec)

/-- ITS FALSE NEIGHBOUR: 'it returns false'. Refute it at one input. -/
def forestDerivationsWrong : ChangeSpec := { name := "forestDerivations", fn := fun _ => fun
  | [d1, d2, d3] => { results := [.lit (.bool false)], args := [d1, d2, d3] }
  | _ => none }
def ForestDerivationsWrongFalsely : Prop := forestDerivationsRow.holds Try.pinned (OpenSpec.ofChange forestDerivationsWrong)

/-- 'emendatelaw32.ForestMembers': WHATEVER THE INPUT: true; the input reads as it did. -/
def forestMembersSpec : ChangeSpec := { name := "forestMembers", fn := fun _ => fun
  | [d1, d2, d3] => { results := [.lit (.bool true)], args := [d1, d2, d3] }
  | _ => none }
def forestMembersRow : OpenClaim := { program := "ytamimodkcbbpmaa", sum := "9fdbb7b4756b548ce2d76b0e4851f9f5c4a2d4817245568ce9667d76af1a78e1", func := "emendate/emendatelaw32.ForestMembers", spec := "forestMembers", unfollowed := true, recurses := true, loops := true, apart := false }
def ForestMembersSaid : Prop := forestMembersRow.holds Try.pinned (OpenSpec.ofChange forestMembersSpec)

/-- ITS FALSE NEIGHBOUR: 'it returns false'. Refute it at one input. -/
def forestMembersWrong : ChangeSpec := { name := "forestMembers", fn := fun _ => fun
  | [d1, d2, d3] => { results := [.lit (.bool false)], args := [d1, d2, d3] }
  | _ => none }
def ForestMembersWrongFalsely : Prop := forestMembersRow.holds Try.pinned (OpenSpec.ofChange forestMembersWrong)

/- THE SECOND FORM. 'bulk': how many values and letters a reading holds, each counted each time it is reached (what is shared counts as often as it is met; a slice's spare places count too). A statement '..UptoSaid' is the law's where the arguments, and the package variables that the reading takes, are together of bulk at most 1048576: NARROWER than '..Said'. Prove '..Said' where nothing that the law and all that it calls make is longer than what came in: it says more and counts as full. Else prove '..UptoSaid'. A law counts once. -/
mutual
def uptoBulk {H : Type} : DataW H → Nat
  | .lit (.string bytes) => bytes.length + 1
  | .lit _ => 1
  | .nil => 1
  | .ptr d => uptoBulk d + 1
  | .slice elems spare => uptoBulkAll elems + uptoBulkAll spare + 1
  | .agg parts => uptoBulkAll parts + 1
  | .iface _ d => uptoBulk d + 1
  | .map entries => uptoBulkEntries entries + 1
  | .held _ => 1
def uptoBulkAll {H : Type} : List (DataW H) → Nat
  | [] => 0
  | d :: r => uptoBulk d + uptoBulkAll r
def uptoBulkEntries {H : Type} : List (Lit × DataW H) → Nat
  | [] => 0
  | x :: r => uptoBulkEntry x + uptoBulkEntries r
def uptoBulkEntry {H : Type} : Lit × DataW H → Nat
  | (.string bytes, d) => bytes.length + uptoBulk d + 1
  | (_, d) => uptoBulk d + 1
 end
def uptoSmall : (H : Type) → List (DataW H) → Bool := fun _ ds => decide (uptoBulkAll ds ≤ 1048576)
def OpenSpec.upto (s : _root_.Go.ChangeSpec) : _root_.Go.OpenSpec := { _root_.Go.OpenSpec.ofChange s with cond := some uptoSmall }

/-- 'emendatelaw30.DerivationValidMatchesReference', WHERE WHAT IT READS IS OF BULK AT MOST 1048576: true; the input reads as it did. -/
def derivationValidMatchesReferenceUptoRow : OpenClaim := { program := "ytamimodkcbbpmaa", sum := "9fdbb7b4756b548ce2d76b0e4851f9f5c4a2d4817245568ce9667d76af1a78e1", func := "emendate/emendatelaw30.DerivationValidMatchesReference", spec := "derivationValidMatchesReference", unfollowed := true, recurses := true, loops := true, apart := false, narrowed := true }
def DerivationValidMatchesReferenceUptoSaid : Prop := derivationValidMatchesReferenceUptoRow.holds Try.pinned (OpenSpec.upto derivationValidMatchesReferenceSpec)

/-- 'emendatelaw30.DerivationCompareMatchesReference', WHERE WHAT IT READS IS OF BULK AT MOST 1048576: true; the input reads as it did. -/
def derivationCompareMatchesReferenceUptoRow : OpenClaim := { program := "ytamimodkcbbpmaa", sum := "9fdbb7b4756b548ce2d76b0e4851f9f5c4a2d4817245568ce9667d76af1a78e1", func := "emendate/emendatelaw30.DerivationCompareMatchesReference", spec := "derivationCompareMatchesReference", unfollowed := true, recurses := true, loops := true, apart := false, narrowed := true }
def DerivationCompareMatchesReferenceUptoSaid : Prop := derivationCompareMatchesReferenceUptoRow.holds Try.pinned (OpenSpec.upto derivationCompareMatchesReferenceSpec)

/-- 'emendatelaw30.DerivationTotalOrder', WHERE WHAT IT READS IS OF BULK AT MOST 1048576: true; the input reads as it did. -/
def derivationTotalOrderUptoRow : OpenClaim := { program := "ytamimodkcbbpmaa", sum := "9fdbb7b4756b548ce2d76b0e4851f9f5c4a2d4817245568ce9667d76af1a78e1", func := "emendate/emendatelaw30.DerivationTotalOrder", spec := "derivationTotalOrder", unfollowed := true, recurses := true, loops := true, apart := false, narrowed := true }
def DerivationTotalOrderUptoSaid : Prop := derivationTotalOrderUptoRow.holds Try.pinned (OpenSpec.upto derivationTotalOrderSpec)

/-- 'emendatelaw30.DerivationBestMatchesReference', WHERE WHAT IT READS IS OF BULK AT MOST 1048576: true; the input reads as it did. -/
def derivationBestMatchesReferenceUptoRow : OpenClaim := { program := "ytamimodkcbbpmaa", sum := "9fdbb7b4756b548ce2d76b0e4851f9f5c4a2d4817245568ce9667d76af1a78e1", func := "emendate/emendatelaw30.DerivationBestMatchesReference", spec := "derivationBestMatchesReference", unfollowed := true, recurses := true, apart := false, narrowed := true }
def DerivationBestMatchesReferenceUptoSaid : Prop := derivationBestMatchesReferenceUptoRow.holds Try.pinned (OpenSpec.upto derivationBestMatchesReferenceSpec)

/-- 'emendatelaw30.DerivationBestIsLeast', WHERE WHAT IT READS IS OF BULK AT MOST 1048576: true; the input reads as it did. -/
def derivationBestIsLeastUptoRow : OpenClaim := { program := "ytamimodkcbbpmaa", sum := "9fdbb7b4756b548ce2d76b0e4851f9f5c4a2d4817245568ce9667d76af1a78e1", func := "emendate/emendatelaw30.DerivationBestIsLeast", spec := "derivationBestIsLeast", unfollowed := true, recurses := true, loops := true, apart := false, narrowed := true }
def DerivationBestIsLeastUptoSaid : Prop := derivationBestIsLeastUptoRow.holds Try.pinned (OpenSpec.upto derivationBestIsLeastSpec)

/-- 'emendatelaw32.ForestIdempotent', WHERE WHAT IT READS IS OF BULK AT MOST 1048576: true; the input reads as it did. -/
def forestIdempotentUptoRow : OpenClaim := { program := "ytamimodkcbbpmaa", sum := "9fdbb7b4756b548ce2d76b0e4851f9f5c4a2d4817245568ce9667d76af1a78e1", func := "emendate/emendatelaw32.ForestIdempotent", spec := "forestIdempotent", unfollowed := true, recurses := true, apart := false, narrowed := true }
def ForestIdempotentUptoSaid : Prop := forestIdempotentUptoRow.holds Try.pinned (OpenSpec.upto forestIdempotentSpec)

/-- 'emendatelaw30.DerivationMonotone', WHERE WHAT IT READS IS OF BULK AT MOST 1048576: true; the input reads as it did. -/
def derivationMonotoneUptoRow : OpenClaim := { program := "ytamimodkcbbpmaa", sum := "9fdbb7b4756b548ce2d76b0e4851f9f5c4a2d4817245568ce9667d76af1a78e1", func := "emendate/emendatelaw30.DerivationMonotone", spec := "derivationMonotone", unfollowed := true, recurses := true, loops := true, apart := false, narrowed := true }
def DerivationMonotoneUptoSaid : Prop := derivationMonotoneUptoRow.holds Try.pinned (OpenSpec.upto derivationMonotoneSpec)

/-- 'emendatelaw32.ForestBest', WHERE WHAT IT READS IS OF BULK AT MOST 1048576: true; the input reads as it did. -/
def forestBestUptoRow : OpenClaim := { program := "ytamimodkcbbpmaa", sum := "9fdbb7b4756b548ce2d76b0e4851f9f5c4a2d4817245568ce9667d76af1a78e1", func := "emendate/emendatelaw32.ForestBest", spec := "forestBest", unfollowed := true, recurses := true, apart := false, narrowed := true }
def ForestBestUptoSaid : Prop := forestBestUptoRow.holds Try.pinned (OpenSpec.upto forestBestSpec)

/-- 'emendatelaw30.DerivationBestSubtrees', WHERE WHAT IT READS IS OF BULK AT MOST 1048576: true; the input reads as it did. -/
def derivationBestSubtreesUptoRow : OpenClaim := { program := "ytamimodkcbbpmaa", sum := "9fdbb7b4756b548ce2d76b0e4851f9f5c4a2d4817245568ce9667d76af1a78e1", func := "emendate/emendatelaw30.DerivationBestSubtrees", spec := "derivationBestSubtrees", unfollowed := true, recurses := true, apart := false, narrowed := true }
def DerivationBestSubtreesUptoSaid : Prop := derivationBestSubtreesUptoRow.holds Try.pinned (OpenSpec.upto derivationBestSubtreesSpec)

/-- 'emendatelaw38.InsertionValues', WHERE WHAT IT READS IS OF BULK AT MOST 1048576: true; the input reads as it did. -/
def insertionValuesUptoRow : OpenClaim := { program := "ytamimodkcbbpmaa", sum := "9fdbb7b4756b548ce2d76b0e4851f9f5c4a2d4817245568ce9667d76af1a78e1", func := "emendate/emendatelaw38.InsertionValues", spec := "insertionValues", unfollowed := true, recurses := true, apart := false, narrowed := true }
def InsertionValuesUptoSaid : Prop := insertionValuesUptoRow.holds Try.pinned (OpenSpec.upto insertionValuesSpec)

/-- 'emendatelaw38.InsertionParse', WHERE WHAT IT READS IS OF BULK AT MOST 1048576: true; the input reads as it did. -/
def insertionParseUptoRow : OpenClaim := { program := "ytamimodkcbbpmaa", sum := "9fdbb7b4756b548ce2d76b0e4851f9f5c4a2d4817245568ce9667d76af1a78e1", func := "emendate/emendatelaw38.InsertionParse", spec := "insertionParse", unfollowed := true, recurses := true, apart := false, narrowed := true }
def InsertionParseUptoSaid : Prop := insertionParseUptoRow.holds Try.pinned (OpenSpec.upto insertionParseSpec)

/-- 'emendatelaw38.InsertionAttained', WHERE WHAT IT READS IS OF BULK AT MOST 1048576: true; the input reads as it did. -/
def insertionAttainedUptoRow : OpenClaim := { program := "ytamimodkcbbpmaa", sum := "9fdbb7b4756b548ce2d76b0e4851f9f5c4a2d4817245568ce9667d76af1a78e1", func := "emendate/emendatelaw38.InsertionAttained", spec := "insertionAttained", unfollowed := true, recurses := true, apart := false, narrowed := true }
def InsertionAttainedUptoSaid : Prop := insertionAttainedUptoRow.holds Try.pinned (OpenSpec.upto insertionAttainedSpec)

/-- 'emendatelaw38.InsertionLowerBound', WHERE WHAT IT READS IS OF BULK AT MOST 1048576: true; the input reads as it did. -/
def insertionLowerBoundUptoRow : OpenClaim := { program := "ytamimodkcbbpmaa", sum := "9fdbb7b4756b548ce2d76b0e4851f9f5c4a2d4817245568ce9667d76af1a78e1", func := "emendate/emendatelaw38.InsertionLowerBound", spec := "insertionLowerBound", unfollowed := true, recurses := true, loops := true, apart := false, narrowed := true }
def InsertionLowerBoundUptoSaid : Prop := insertionLowerBoundUptoRow.holds Try.pinned (OpenSpec.upto insertionLowerBoundSpec)

/-- 'emendatelaw38.InsertionMonotone', WHERE WHAT IT READS IS OF BULK AT MOST 1048576: true; the input reads as it did. -/
def insertionMonotoneUptoRow : OpenClaim := { program := "ytamimodkcbbpmaa", sum := "9fdbb7b4756b548ce2d76b0e4851f9f5c4a2d4817245568ce9667d76af1a78e1", func := "emendate/emendatelaw38.InsertionMonotone", spec := "insertionMonotone", unfollowed := true, recurses := true, apart := false, narrowed := true }
def InsertionMonotoneUptoSaid : Prop := insertionMonotoneUptoRow.holds Try.pinned (OpenSpec.upto insertionMonotoneSpec)

/-- 'emendatelaw38.InsertionEquations', WHERE WHAT IT READS IS OF BULK AT MOST 1048576: true; the input reads as it did. -/
def insertionEquationsUptoRow : OpenClaim := { program := "ytamimodkcbbpmaa", sum := "9fdbb7b4756b548ce2d76b0e4851f9f5c4a2d4817245568ce9667d76af1a78e1", func := "emendate/emendatelaw38.InsertionEquations", spec := "insertionEquations", unfollowed := true, recurses := true, apart := false, narrowed := true }
def InsertionEquationsUptoSaid : Prop := insertionEquationsUptoRow.holds Try.pinned (OpenSpec.upto insertionEquationsSpec)

/-- 'emendatelaw32.ForestTight', WHERE WHAT IT READS IS OF BULK AT MOST 1048576: true; the input reads as it did. -/
def forestTightUptoRow : OpenClaim := { program := "ytamimodkcbbpmaa", sum := "9fdbb7b4756b548ce2d76b0e4851f9f5c4a2d4817245568ce9667d76af1a78e1", func := "emendate/emendatelaw32.ForestTight", spec := "forestTight", unfollowed := true, recurses := true, apart := false, narrowed := true }
def ForestTightUptoSaid : Prop := forestTightUptoRow.holds Try.pinned (OpenSpec.upto forestTightSpec)

/-- 'emendatelaw32.ForestCount', WHERE WHAT IT READS IS OF BULK AT MOST 1048576: true; the input reads as it did. -/
def forestCountUptoRow : OpenClaim := { program := "ytamimodkcbbpmaa", sum := "9fdbb7b4756b548ce2d76b0e4851f9f5c4a2d4817245568ce9667d76af1a78e1", func := "emendate/emendatelaw32.ForestCount", spec := "forestCount", unfollowed := true, recurses := true, apart := false, narrowed := true }
def ForestCountUptoSaid : Prop := forestCountUptoRow.holds Try.pinned (OpenSpec.upto forestCountSpec)

/-- 'emendatelaw32.ForestContains', WHERE WHAT IT READS IS OF BULK AT MOST 1048576: true; the input reads as it did. -/
def forestContainsUptoRow : OpenClaim := { program := "ytamimodkcbbpmaa", sum := "9fdbb7b4756b548ce2d76b0e4851f9f5c4a2d4817245568ce9667d76af1a78e1", func := "emendate/emendatelaw32.ForestContains", spec := "forestContains", unfollowed := true, recurses := true, loops := true, apart := false, narrowed := true }
def ForestContainsUptoSaid : Prop := forestContainsUptoRow.holds Try.pinned (OpenSpec.upto forestContainsSpec)

/-- 'emendatelaw32.ForestAcyclic', WHERE WHAT IT READS IS OF BULK AT MOST 1048576: true; the input reads as it did. -/
def forestAcyclicUptoRow : OpenClaim := { program := "ytamimodkcbbpmaa", sum := "9fdbb7b4756b548ce2d76b0e4851f9f5c4a2d4817245568ce9667d76af1a78e1", func := "emendate/emendatelaw32.ForestAcyclic", spec := "forestAcyclic", unfollowed := true, recurses := true, apart := false, narrowed := true }
def ForestAcyclicUptoSaid : Prop := forestAcyclicUptoRow.holds Try.pinned (OpenSpec.upto forestAcyclicSpec)

/-- 'emendatelaw32.ForestInside', WHERE WHAT IT READS IS OF BULK AT MOST 1048576: true; the input reads as it did. -/
def forestInsideUptoRow : OpenClaim := { program := "ytamimodkcbbpmaa", sum := "9fdbb7b4756b548ce2d76b0e4851f9f5c4a2d4817245568ce9667d76af1a78e1", func := "emendate/emendatelaw32.ForestInside", spec := "forestInside", unfollowed := true, recurses := true, apart := false, narrowed := true }
def ForestInsideUptoSaid : Prop := forestInsideUptoRow.holds Try.pinned (OpenSpec.upto forestInsideSpec)

/-- 'emendatelaw32.ForestDerivations', WHERE WHAT IT READS IS OF BULK AT MOST 1048576: true; the input reads as it did. -/
def forestDerivationsUptoRow : OpenClaim := { program := "ytamimodkcbbpmaa", sum := "9fdbb7b4756b548ce2d76b0e4851f9f5c4a2d4817245568ce9667d76af1a78e1", func := "emendate/emendatelaw32.ForestDerivations", spec := "forestDerivations", unfollowed := true, recurses := true, loops := true, apart := false, narrowed := true }
def ForestDerivationsUptoSaid : Prop := forestDerivationsUptoRow.holds Try.pinned (OpenSpec.upto forestDerivationsSpec)

/-- 'emendatelaw32.ForestMembers', WHERE WHAT IT READS IS OF BULK AT MOST 1048576: true; the input reads as it did. -/
def forestMembersUptoRow : OpenClaim := { program := "ytamimodkcbbpmaa", sum := "9fdbb7b4756b548ce2d76b0e4851f9f5c4a2d4817245568ce9667d76af1a78e1", func := "emendate/emendatelaw32.ForestMembers", spec := "forestMembers", unfollowed := true, recurses := true, loops := true, apart := false, narrowed := true }
def ForestMembersUptoSaid : Prop := forestMembersUptoRow.holds Try.pinned (OpenSpec.upto forestMembersSpec)

end Rows
end Go.Proofs.Ytamimodkcbbpmaa
