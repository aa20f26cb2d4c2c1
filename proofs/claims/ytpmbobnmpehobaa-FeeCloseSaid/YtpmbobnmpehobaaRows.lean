/-
  No cell of these rows narrows 'for every input' (looked for: loops, veiled, ifaces, maps, wideKeys, modest, calm, conditions, laid).
  DERIVED. THE GIVEN ROWS OF THIS SEAT. 13 by the template 'for every input the law returns true; each argument reads behind the call as it read before'; 0 by the template 'total and deterministic' (their statements: YtpmbobnmpehobaaTotals.lean).
  GIVEN WITH THE SEED: the statements are not yours to turn. If you find one false, say at which input.
  Laid BY PROGRAM, IN A SANDBOX (cutbox-rows.mjs): the forced cells as the released guide's own fill.sh prints them over the translation 800d4ef70ef30502… (all of the seat's roots in one cut). By AI agents, Wed Nov 11 2026. No macro, syntax, notation, axiom, sorry.
-/
import Derived.Test.YtpmbobnmpehobaaChecked
import GoSem.Claim
import GoSem.ClaimJoined
import GoSem.ClaimMapViews
import Derived.JoinedTies
import Derived.KernelRfl
namespace Go.Proofs.Ytpmbobnmpehobaa
/- THE CELL 'sum', in the pinned program and in every row, IS THE sha256 OF THE DUMP (.gsa) THAT YtpmbobnmpehobaaProg.lean LOADS. Nothing in Lean hashes anything: it is a label: what it is worth is what the hold of that sum in a sandbox is worth. -/
noncomputable def Try.pinned : Pinned := { name := "ytpmbobnmpehobaa", sum := "800d4ef70ef30502366579d36b19af378b36a6fd6f0bcca156e09062d3f40bc7", checked := Try.checked }
namespace Rows
def none {H : Type} : Left H := { results := [], args := [] }

/-- 'oyezlaw08.FeeDivides': WHATEVER THE INPUT: true; the input reads as it did. -/
def feeDividesSpec : ChangeSpec := { name := "feeDivides", fn := fun _ => fun
  | [d1, d2] => { results := [.lit (.bool true)], args := [d1, d2] }
  | _ => none }
def feeDividesRow : OpenClaim := { program := "ytpmbobnmpehobaa", sum := "800d4ef70ef30502366579d36b19af378b36a6fd6f0bcca156e09062d3f40bc7", func := "oyez/oyezlaw08.FeeDivides", spec := "feeDivides", unfollowed := true, recurses := true, plainKeys := false, apart := false }
def FeeDividesSaid : Prop := feeDividesRow.holds Try.pinned (OpenSpec.ofChange feeDividesSpec)

/-- ITS FALSE NEIGHBOUR: 'it returns false'. Refute it at one input. -/
def feeDividesWrong : ChangeSpec := { name := "feeDivides", fn := fun _ => fun
  | [d1, d2] => { results := [.lit (.bool false)], args := [d1, d2] }
  | _ => none }
def FeeDividesWrongFalsely : Prop := feeDividesRow.holds Try.pinned (OpenSpec.ofChange feeDividesWrong)

/-- 'oyezlaw08.FeeFined': WHATEVER THE INPUT: true; the input reads as it did. -/
def feeFinedSpec : ChangeSpec := { name := "feeFined", fn := fun _ => fun
  | [d1, d2, d3, d4] => { results := [.lit (.bool true)], args := [d1, d2, d3, d4] }
  | _ => none }
def feeFinedRow : OpenClaim := { program := "ytpmbobnmpehobaa", sum := "800d4ef70ef30502366579d36b19af378b36a6fd6f0bcca156e09062d3f40bc7", func := "oyez/oyezlaw08.FeeFined", spec := "feeFined", unfollowed := true, recurses := true, plainKeys := false, apart := false }
def FeeFinedSaid : Prop := feeFinedRow.holds Try.pinned (OpenSpec.ofChange feeFinedSpec)

/-- ITS FALSE NEIGHBOUR: 'it returns false'. Refute it at one input. -/
def feeFinedWrong : ChangeSpec := { name := "feeFined", fn := fun _ => fun
  | [d1, d2, d3, d4] => { results := [.lit (.bool false)], args := [d1, d2, d3, d4] }
  | _ => none }
def FeeFinedWrongFalsely : Prop := feeFinedRow.holds Try.pinned (OpenSpec.ofChange feeFinedWrong)

/-- 'oyezlaw08.FeeDivided': WHATEVER THE INPUT: true; the input reads as it did. -/
def feeDividedSpec : ChangeSpec := { name := "feeDivided", fn := fun _ => fun
  | [d1, d2] => { results := [.lit (.bool true)], args := [d1, d2] }
  | _ => none }
def feeDividedRow : OpenClaim := { program := "ytpmbobnmpehobaa", sum := "800d4ef70ef30502366579d36b19af378b36a6fd6f0bcca156e09062d3f40bc7", func := "oyez/oyezlaw08.FeeDivided", spec := "feeDivided", unfollowed := true, recurses := true, plainKeys := false, apart := false }
def FeeDividedSaid : Prop := feeDividedRow.holds Try.pinned (OpenSpec.ofChange feeDividedSpec)

/-- ITS FALSE NEIGHBOUR: 'it returns false'. Refute it at one input. -/
def feeDividedWrong : ChangeSpec := { name := "feeDivided", fn := fun _ => fun
  | [d1, d2] => { results := [.lit (.bool false)], args := [d1, d2] }
  | _ => none }
def FeeDividedWrongFalsely : Prop := feeDividedRow.holds Try.pinned (OpenSpec.ofChange feeDividedWrong)

/-- 'oyezlaw08.FeeMoves': WHATEVER THE INPUT: true; the input reads as it did. -/
def feeMovesSpec : ChangeSpec := { name := "feeMoves", fn := fun _ => fun
  | [d1, d2] => { results := [.lit (.bool true)], args := [d1, d2] }
  | _ => none }
def feeMovesRow : OpenClaim := { program := "ytpmbobnmpehobaa", sum := "800d4ef70ef30502366579d36b19af378b36a6fd6f0bcca156e09062d3f40bc7", func := "oyez/oyezlaw08.FeeMoves", spec := "feeMoves", unfollowed := true, recurses := true, plainKeys := false, apart := false }
def FeeMovesSaid : Prop := feeMovesRow.holds Try.pinned (OpenSpec.ofChange feeMovesSpec)

/-- ITS FALSE NEIGHBOUR: 'it returns false'. Refute it at one input. -/
def feeMovesWrong : ChangeSpec := { name := "feeMoves", fn := fun _ => fun
  | [d1, d2] => { results := [.lit (.bool false)], args := [d1, d2] }
  | _ => none }
def FeeMovesWrongFalsely : Prop := feeMovesRow.holds Try.pinned (OpenSpec.ofChange feeMovesWrong)

/-- 'oyezlaw08.FeeMoved': WHATEVER THE INPUT: true; the input reads as it did. -/
def feeMovedSpec : ChangeSpec := { name := "feeMoved", fn := fun _ => fun
  | [d1, d2] => { results := [.lit (.bool true)], args := [d1, d2] }
  | _ => none }
def feeMovedRow : OpenClaim := { program := "ytpmbobnmpehobaa", sum := "800d4ef70ef30502366579d36b19af378b36a6fd6f0bcca156e09062d3f40bc7", func := "oyez/oyezlaw08.FeeMoved", spec := "feeMoved", unfollowed := true, recurses := true, plainKeys := false, apart := false }
def FeeMovedSaid : Prop := feeMovedRow.holds Try.pinned (OpenSpec.ofChange feeMovedSpec)

/-- ITS FALSE NEIGHBOUR: 'it returns false'. Refute it at one input. -/
def feeMovedWrong : ChangeSpec := { name := "feeMoved", fn := fun _ => fun
  | [d1, d2] => { results := [.lit (.bool false)], args := [d1, d2] }
  | _ => none }
def FeeMovedWrongFalsely : Prop := feeMovedRow.holds Try.pinned (OpenSpec.ofChange feeMovedWrong)

/-- 'oyezlaw08.FeeBest': WHATEVER THE INPUT: true; the input reads as it did. -/
def feeBestSpec : ChangeSpec := { name := "feeBest", fn := fun _ => fun
  | [d] => { results := [.lit (.bool true)], args := [d] }
  | _ => none }
def feeBestRow : OpenClaim := { program := "ytpmbobnmpehobaa", sum := "800d4ef70ef30502366579d36b19af378b36a6fd6f0bcca156e09062d3f40bc7", func := "oyez/oyezlaw08.FeeBest", spec := "feeBest", unfollowed := true, recurses := true, plainKeys := false, apart := false }
def FeeBestSaid : Prop := feeBestRow.holds Try.pinned (OpenSpec.ofChange feeBestSpec)

/-- ITS FALSE NEIGHBOUR: 'it returns false'. Refute it at one input. -/
def feeBestWrong : ChangeSpec := { name := "feeBest", fn := fun _ => fun
  | [d] => { results := [.lit (.bool false)], args := [d] }
  | _ => none }
def FeeBestWrongFalsely : Prop := feeBestRow.holds Try.pinned (OpenSpec.ofChange feeBestWrong)

/-- 'oyezlaw08.FeeClears': WHATEVER THE INPUT: true; the input reads as it did. -/
def feeClearsSpec : ChangeSpec := { name := "feeClears", fn := fun _ => fun
  | [d1, d2] => { results := [.lit (.bool true)], args := [d1, d2] }
  | _ => none }
def feeClearsRow : OpenClaim := { program := "ytpmbobnmpehobaa", sum := "800d4ef70ef30502366579d36b19af378b36a6fd6f0bcca156e09062d3f40bc7", func := "oyez/oyezlaw08.FeeClears", spec := "feeClears", unfollowed := true, recurses := true, plainKeys := false, apart := false }
def FeeClearsSaid : Prop := feeClearsRow.holds Try.pinned (OpenSpec.ofChange feeClearsSpec)

/-- ITS FALSE NEIGHBOUR: 'it returns false'. Refute it at one input. -/
def feeClearsWrong : ChangeSpec := { name := "feeClears", fn := fun _ => fun
  | [d1, d2] => { results := [.lit (.bool false)], args := [d1, d2] }
  | _ => none }
def FeeClearsWrongFalsely : Prop := feeClearsRow.holds Try.pinned (OpenSpec.ofChange feeClearsWrong)

/-- 'oyezlaw08.FeeClose': WHATEVER THE INPUT: true; the input reads as it did. -/
def feeCloseSpec : ChangeSpec := { name := "feeClose", fn := fun _ => fun
  | [d1, d2] => { results := [.lit (.bool true)], args := [d1, d2] }
  | _ => none }
def feeCloseRow : OpenClaim := { program := "ytpmbobnmpehobaa", sum := "800d4ef70ef30502366579d36b19af378b36a6fd6f0bcca156e09062d3f40bc7", func := "oyez/oyezlaw08.FeeClose", spec := "feeClose", unfollowed := true, recurses := true, plainKeys := false, apart := false }
def FeeCloseSaid : Prop := feeCloseRow.holds Try.pinned (OpenSpec.ofChange feeCloseSpec)

/-- ITS FALSE NEIGHBOUR: 'it returns false'. Refute it at one input. -/
def feeCloseWrong : ChangeSpec := { name := "feeClose", fn := fun _ => fun
  | [d1, d2] => { results := [.lit (.bool false)], args := [d1, d2] }
  | _ => none }
def FeeCloseWrongFalsely : Prop := feeCloseRow.holds Try.pinned (OpenSpec.ofChange feeCloseWrong)

/-- 'oyezlaw08.FeeChecks': WHATEVER THE INPUT: true; the input reads as it did. -/
def feeChecksSpec : ChangeSpec := { name := "feeChecks", fn := fun _ => fun
  | [d1, d2, d3, d4] => { results := [.lit (.bool true)], args := [d1, d2, d3, d4] }
  | _ => none }
def feeChecksRow : OpenClaim := { program := "ytpmbobnmpehobaa", sum := "800d4ef70ef30502366579d36b19af378b36a6fd6f0bcca156e09062d3f40bc7", func := "oyez/oyezlaw08.FeeChecks", spec := "feeChecks", unfollowed := true, recurses := true, plainKeys := false, apart := false }
def FeeChecksSaid : Prop := feeChecksRow.holds Try.pinned (OpenSpec.ofChange feeChecksSpec)

/-- ITS FALSE NEIGHBOUR: 'it returns false'. Refute it at one input. -/
def feeChecksWrong : ChangeSpec := { name := "feeChecks", fn := fun _ => fun
  | [d1, d2, d3, d4] => { results := [.lit (.bool false)], args := [d1, d2, d3, d4] }
  | _ => none }
def FeeChecksWrongFalsely : Prop := feeChecksRow.holds Try.pinned (OpenSpec.ofChange feeChecksWrong)

/-- 'oyezlaw08.FeeCleared': WHATEVER THE INPUT: true; the input reads as it did. -/
def feeClearedSpec : ChangeSpec := { name := "feeCleared", fn := fun _ => fun
  | [d1, d2] => { results := [.lit (.bool true)], args := [d1, d2] }
  | _ => none }
def feeClearedRow : OpenClaim := { program := "ytpmbobnmpehobaa", sum := "800d4ef70ef30502366579d36b19af378b36a6fd6f0bcca156e09062d3f40bc7", func := "oyez/oyezlaw08.FeeCleared", spec := "feeCleared", unfollowed := true, recurses := true, plainKeys := false, apart := false }
def FeeClearedSaid : Prop := feeClearedRow.holds Try.pinned (OpenSpec.ofChange feeClearedSpec)

/-- ITS FALSE NEIGHBOUR: 'it returns false'. Refute it at one input. -/
def feeClearedWrong : ChangeSpec := { name := "feeCleared", fn := fun _ => fun
  | [d1, d2] => { results := [.lit (.bool false)], args := [d1, d2] }
  | _ => none }
def FeeClearedWrongFalsely : Prop := feeClearedRow.holds Try.pinned (OpenSpec.ofChange feeClearedWrong)

/-- 'oyezlaw08.FeeBounds': WHATEVER THE INPUT: true; the input reads as it did. -/
def feeBoundsSpec : ChangeSpec := { name := "feeBounds", fn := fun _ => fun
  | [d1, d2] => { results := [.lit (.bool true)], args := [d1, d2] }
  | _ => none }
def feeBoundsRow : OpenClaim := { program := "ytpmbobnmpehobaa", sum := "800d4ef70ef30502366579d36b19af378b36a6fd6f0bcca156e09062d3f40bc7", func := "oyez/oyezlaw08.FeeBounds", spec := "feeBounds", unfollowed := true, recurses := true, plainKeys := false, apart := false }
def FeeBoundsSaid : Prop := feeBoundsRow.holds Try.pinned (OpenSpec.ofChange feeBoundsSpec)

/-- ITS FALSE NEIGHBOUR: 'it returns false'. Refute it at one input. -/
def feeBoundsWrong : ChangeSpec := { name := "feeBounds", fn := fun _ => fun
  | [d1, d2] => { results := [.lit (.bool false)], args := [d1, d2] }
  | _ => none }
def FeeBoundsWrongFalsely : Prop := feeBoundsRow.holds Try.pinned (OpenSpec.ofChange feeBoundsWrong)

/-- 'oyezlaw08.FeeBound': WHATEVER THE INPUT: true; the input reads as it did. -/
def feeBoundSpec : ChangeSpec := { name := "feeBound", fn := fun _ => fun
  | [d1, d2] => { results := [.lit (.bool true)], args := [d1, d2] }
  | _ => none }
def feeBoundRow : OpenClaim := { program := "ytpmbobnmpehobaa", sum := "800d4ef70ef30502366579d36b19af378b36a6fd6f0bcca156e09062d3f40bc7", func := "oyez/oyezlaw08.FeeBound", spec := "feeBound", unfollowed := true, recurses := true, plainKeys := false, apart := false }
def FeeBoundSaid : Prop := feeBoundRow.holds Try.pinned (OpenSpec.ofChange feeBoundSpec)

/-- ITS FALSE NEIGHBOUR: 'it returns false'. Refute it at one input. -/
def feeBoundWrong : ChangeSpec := { name := "feeBound", fn := fun _ => fun
  | [d1, d2] => { results := [.lit (.bool false)], args := [d1, d2] }
  | _ => none }
def FeeBoundWrongFalsely : Prop := feeBoundRow.holds Try.pinned (OpenSpec.ofChange feeBoundWrong)

/-- 'oyezlaw08.FeeEven': WHATEVER THE INPUT: true; the input reads as it did. -/
def feeEvenSpec : ChangeSpec := { name := "feeEven", fn := fun _ => fun
  | [d1, d2] => { results := [.lit (.bool true)], args := [d1, d2] }
  | _ => none }
def feeEvenRow : OpenClaim := { program := "ytpmbobnmpehobaa", sum := "800d4ef70ef30502366579d36b19af378b36a6fd6f0bcca156e09062d3f40bc7", func := "oyez/oyezlaw08.FeeEven", spec := "feeEven", unfollowed := true, recurses := true, plainKeys := false, apart := false }
def FeeEvenSaid : Prop := feeEvenRow.holds Try.pinned (OpenSpec.ofChange feeEvenSpec)

/-- ITS FALSE NEIGHBOUR: 'it returns false'. Refute it at one input. -/
def feeEvenWrong : ChangeSpec := { name := "feeEven", fn := fun _ => fun
  | [d1, d2] => { results := [.lit (.bool false)], args := [d1, d2] }
  | _ => none }
def FeeEvenWrongFalsely : Prop := feeEvenRow.holds Try.pinned (OpenSpec.ofChange feeEvenWrong)

/- THE SECOND FORM. 'bulk': how many values and letters a reading holds, each counted each time it is reached (what is shared counts as often as it is met; a slice's spare places count too). A statement '..UptoSaid' is the law's where the arguments, and the package variables that the reading takes, are together of bulk at most 1048576: NARROWER than '..Said'. Prove '..Said' where nothing that the law and all that it calls make is longer than what came in: it says more and counts as full. Else prove '..UptoSaid'. A law counts once. -/
mutual
def uptoBulk {H : Type} : DataW H → Nat
  | .lit (.string bytes) => bytes.length + 1
  | .lit _ => 1
  | .nil => 1
  | .ptr d => uptoBulk d + 1
  | .slice elems spare => uptoBulkAll elems + uptoBulkAll spare + 1
  | .agg parts => uptoBulkAll parts + 1
  | .iface _ d => uptoBulk d + 1
  | .map entries => uptoBulkEntries entries + 1
  | .held _ => 1
def uptoBulkAll {H : Type} : List (DataW H) → Nat
  | [] => 0
  | d :: r => uptoBulk d + uptoBulkAll r
def uptoBulkEntries {H : Type} : List (Lit × DataW H) → Nat
  | [] => 0
  | x :: r => uptoBulkEntry x + uptoBulkEntries r
def uptoBulkEntry {H : Type} : Lit × DataW H → Nat
  | (.string bytes, d) => bytes.length + uptoBulk d + 1
  | (_, d) => uptoBulk d + 1
 end
def uptoSmall : (H : Type) → List (DataW H) → Bool := fun _ ds => decide (uptoBulkAll ds ≤ 1048576)
def OpenSpec.upto (s : _root_.Go.ChangeSpec) : _root_.Go.OpenSpec := { _root_.Go.OpenSpec.ofChange s with cond := some uptoSmall }

/-- 'oyezlaw08.FeeDivides', WHERE WHAT IT READS IS OF BULK AT MOST 1048576: true; the input reads as it did. -/
def feeDividesUptoRow : OpenClaim := { program := "ytpmbobnmpehobaa", sum := "800d4ef70ef30502366579d36b19af378b36a6fd6f0bcca156e09062d3f40bc7", func := "oyez/oyezlaw08.FeeDivides", spec := "feeDivides", unfollowed := true, recurses := true, plainKeys := false, apart := false, narrowed := true }
def FeeDividesUptoSaid : Prop := feeDividesUptoRow.holds Try.pinned (OpenSpec.upto feeDividesSpec)

/-- 'oyezlaw08.FeeFined', WHERE WHAT IT READS IS OF BULK AT MOST 1048576: true; the input reads as it did. -/
def feeFinedUptoRow : OpenClaim := { program := "ytpmbobnmpehobaa", sum := "800d4ef70ef30502366579d36b19af378b36a6fd6f0bcca156e09062d3f40bc7", func := "oyez/oyezlaw08.FeeFined", spec := "feeFined", unfollowed := true, recurses := true, plainKeys := false, apart := false, narrowed := true }
def FeeFinedUptoSaid : Prop := feeFinedUptoRow.holds Try.pinned (OpenSpec.upto feeFinedSpec)

/-- 'oyezlaw08.FeeDivided', WHERE WHAT IT READS IS OF BULK AT MOST 1048576: true; the input reads as it did. -/
def feeDividedUptoRow : OpenClaim := { program := "ytpmbobnmpehobaa", sum := "800d4ef70ef30502366579d36b19af378b36a6fd6f0bcca156e09062d3f40bc7", func := "oyez/oyezlaw08.FeeDivided", spec := "feeDivided", unfollowed := true, recurses := true, plainKeys := false, apart := false, narrowed := true }
def FeeDividedUptoSaid : Prop := feeDividedUptoRow.holds Try.pinned (OpenSpec.upto feeDividedSpec)

/-- 'oyezlaw08.FeeMoves', WHERE WHAT IT READS IS OF BULK AT MOST 1048576: true; the input reads as it did. -/
def feeMovesUptoRow : OpenClaim := { program := "ytpmbobnmpehobaa", sum := "800d4ef70ef30502366579d36b19af378b36a6fd6f0bcca156e09062d3f40bc7", func := "oyez/oyezlaw08.FeeMoves", spec := "feeMoves", unfollowed := true, recurses := true, plainKeys := false, apart := false, narrowed := true }
def FeeMovesUptoSaid : Prop := feeMovesUptoRow.holds Try.pinned (OpenSpec.upto feeMovesSpec)

/-- 'oyezlaw08.FeeMoved', WHERE WHAT IT READS IS OF BULK AT MOST 1048576: true; the input reads as it did. -/
def feeMovedUptoRow : OpenClaim := { program := "ytpmbobnmpehobaa", sum := "800d4ef70ef30502366579d36b19af378b36a6fd6f0bcca156e09062d3f40bc7", func := "oyez/oyezlaw08.FeeMoved", spec := "feeMoved", unfollowed := true, recurses := true, plainKeys := false, apart := false, narrowed := true }
def FeeMovedUptoSaid : Prop := feeMovedUptoRow.holds Try.pinned (OpenSpec.upto feeMovedSpec)

/-- 'oyezlaw08.FeeBest', WHERE WHAT IT READS IS OF BULK AT MOST 1048576: true; the input reads as it did. -/
def feeBestUptoRow : OpenClaim := { program := "ytpmbobnmpehobaa", sum := "800d4ef70ef30502366579d36b19af378b36a6fd6f0bcca156e09062d3f40bc7", func := "oyez/oyezlaw08.FeeBest", spec := "feeBest", unfollowed := true, recurses := true, plainKeys := false, apart := false, narrowed := true }
def FeeBestUptoSaid : Prop := feeBestUptoRow.holds Try.pinned (OpenSpec.upto feeBestSpec)

/-- 'oyezlaw08.FeeClears', WHERE WHAT IT READS IS OF BULK AT MOST 1048576: true; the input reads as it did. -/
def feeClearsUptoRow : OpenClaim := { program := "ytpmbobnmpehobaa", sum := "800d4ef70ef30502366579d36b19af378b36a6fd6f0bcca156e09062d3f40bc7", func := "oyez/oyezlaw08.FeeClears", spec := "feeClears", unfollowed := true, recurses := true, plainKeys := false, apart := false, narrowed := true }
def FeeClearsUptoSaid : Prop := feeClearsUptoRow.holds Try.pinned (OpenSpec.upto feeClearsSpec)

/-- 'oyezlaw08.FeeClose', WHERE WHAT IT READS IS OF BULK AT MOST 1048576: true; the input reads as it did. -/
def feeCloseUptoRow : OpenClaim := { program := "ytpmbobnmpehobaa", sum := "800d4ef70ef30502366579d36b19af378b36a6fd6f0bcca156e09062d3f40bc7", func := "oyez/oyezlaw08.FeeClose", spec := "feeClose", unfollowed := true, recurses := true, plainKeys := false, apart := false, narrowed := true }
def FeeCloseUptoSaid : Prop := feeCloseUptoRow.holds Try.pinned (OpenSpec.upto feeCloseSpec)

/-- 'oyezlaw08.FeeChecks', WHERE WHAT IT READS IS OF BULK AT MOST 1048576: true; the input reads as it did. -/
def feeChecksUptoRow : OpenClaim := { program := "ytpmbobnmpehobaa", sum := "800d4ef70ef30502366579d36b19af378b36a6fd6f0bcca156e09062d3f40bc7", func := "oyez/oyezlaw08.FeeChecks", spec := "feeChecks", unfollowed := true, recurses := true, plainKeys := false, apart := false, narrowed := true }
def FeeChecksUptoSaid : Prop := feeChecksUptoRow.holds Try.pinned (OpenSpec.upto feeChecksSpec)

/-- 'oyezlaw08.FeeCleared', WHERE WHAT IT READS IS OF BULK AT MOST 1048576: true; the input reads as it did. -/
def feeClearedUptoRow : OpenClaim := { program := "ytpmbobnmpehobaa", sum := "800d4ef70ef30502366579d36b19af378b36a6fd6f0bcca156e09062d3f40bc7", func := "oyez/oyezlaw08.FeeCleared", spec := "feeCleared", unfollowed := true, recurses := true, plainKeys := false, apart := false, narrowed := true }
def FeeClearedUptoSaid : Prop := feeClearedUptoRow.holds Try.pinned (OpenSpec.upto feeClearedSpec)

/-- 'oyezlaw08.FeeBounds', WHERE WHAT IT READS IS OF BULK AT MOST 1048576: true; the input reads as it did. -/
def feeBoundsUptoRow : OpenClaim := { program := "ytpmbobnmpehobaa", sum := "800d4ef70ef30502366579d36b19af378b36a6fd6f0bcca156e09062d3f40bc7", func := "oyez/oyezlaw08.FeeBounds", spec := "feeBounds", unfollowed := true, recurses := true, plainKeys := false, apart := false, narrowed := true }
def FeeBoundsUptoSaid : Prop := feeBoundsUptoRow.holds Try.pinned (OpenSpec.upto feeBoundsSpec)

/-- 'oyezlaw08.FeeBound', WHERE WHAT IT READS IS OF BULK AT MOST 1048576: true; the input reads as it did. -/
def feeBoundUptoRow : OpenClaim := { program := "ytpmbobnmpehobaa", sum := "800d4ef70ef30502366579d36b19af378b36a6fd6f0bcca156e09062d3f40bc7", func := "oyez/oyezlaw08.FeeBound", spec := "feeBound", unfollowed := true, recurses := true, plainKeys := false, apart := false, narrowed := true }
def FeeBoundUptoSaid : Prop := feeBoundUptoRow.holds Try.pinned (OpenSpec.upto feeBoundSpec)

/-- 'oyezlaw08.FeeEven', WHERE WHAT IT READS IS OF BULK AT MOST 1048576: true; the input reads as it did. -/
def feeEvenUptoRow : OpenClaim := { program := "ytpmbobnmpehobaa", sum := "800d4ef70ef30502366579d36b19af378b36a6fd6f0bcca156e09062d3f40bc7", func := "oyez/oyezlaw08.FeeEven", spec := "feeEven", unfollowed := true, recurses := true, plainKeys := false, apart := false, narrowed := true }
def FeeEvenUptoSaid : Prop := feeEvenUptoRow.holds Try.pinned (OpenSpec.upto feeEvenSpec)

end Rows
end Go.Proofs.Ytpmbobnmpehobaa
