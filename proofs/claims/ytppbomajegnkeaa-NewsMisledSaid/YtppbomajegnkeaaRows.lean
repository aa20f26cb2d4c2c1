/-
  No cell of these rows narrows 'for every input' (looked for: loops, veiled, ifaces, maps, wideKeys, modest, calm, conditions, laid).
  DERIVED. THE GIVEN ROWS OF THIS SEAT. 3 by the template 'for every input the law returns true; each argument reads behind the call as it read before'; 0 by the template 'total and deterministic' (their statements: YtppbomajegnkeaaTotals.lean).
  GIVEN WITH THE SEED: the statements are not yours to turn. If you find one false, say at which input.
  Laid BY PROGRAM, IN A SANDBOX (cutbox-rows.mjs): the forced cells as the released guide's own fill.sh prints them over the translation b8e0ee03486c1b0b… (all of the seat's roots in one cut). By AI agents, Wed Nov 11 2026. No macro, syntax, notation, axiom, sorry.
-/
import Derived.Test.YtppbomajegnkeaaChecked
import GoSem.Claim
import GoSem.ClaimJoined
import GoSem.ClaimMapViews
import Derived.JoinedTies
import Derived.KernelRfl
namespace Go.Proofs.Ytppbomajegnkeaa
/- THE CELL 'sum', in the pinned program and in every row, IS THE sha256 OF THE DUMP (.gsa) THAT YtppbomajegnkeaaProg.lean LOADS. Nothing in Lean hashes anything: it is a label: what it is worth is what the hold of that sum in a sandbox is worth. -/
noncomputable def Try.pinned : Pinned := { name := "ytppbomajegnkeaa", sum := "b8e0ee03486c1b0b52983bb2e3900ab32167b1a64b745bdfb7205be4ac2c627c", checked := Try.checked }
namespace Rows
def none {H : Type} : Left H := { results := [], args := [] }

/-- 'oyezlaw04.NewsFurther': WHATEVER THE INPUT: true; the input reads as it did. -/
def newsFurtherSpec : ChangeSpec := { name := "newsFurther", fn := fun _ => fun
  | [d1, d2, d3, d4, d5] => { results := [.lit (.bool true)], args := [d1, d2, d3, d4, d5] }
  | _ => none }
def newsFurtherRow : OpenClaim := { program := "ytppbomajegnkeaa", sum := "b8e0ee03486c1b0b52983bb2e3900ab32167b1a64b745bdfb7205be4ac2c627c", func := "oyez/oyezlaw04.NewsFurther", spec := "newsFurther", unfollowed := true, recurses := true, plainKeys := false, apart := false }
def NewsFurtherSaid : Prop := newsFurtherRow.holds Try.pinned (OpenSpec.ofChange newsFurtherSpec)

/-- ITS FALSE NEIGHBOUR: 'it returns false'. Refute it at one input. -/
def newsFurtherWrong : ChangeSpec := { name := "newsFurther", fn := fun _ => fun
  | [d1, d2, d3, d4, d5] => { results := [.lit (.bool false)], args := [d1, d2, d3, d4, d5] }
  | _ => none }
def NewsFurtherWrongFalsely : Prop := newsFurtherRow.holds Try.pinned (OpenSpec.ofChange newsFurtherWrong)

/-- 'oyezlaw04.NewsMisled': WHATEVER THE INPUT: true; the input reads as it did. -/
def newsMisledSpec : ChangeSpec := { name := "newsMisled", fn := fun _ => fun
  | [d1, d2, d3] => { results := [.lit (.bool true)], args := [d1, d2, d3] }
  | _ => none }
def newsMisledRow : OpenClaim := { program := "ytppbomajegnkeaa", sum := "b8e0ee03486c1b0b52983bb2e3900ab32167b1a64b745bdfb7205be4ac2c627c", func := "oyez/oyezlaw04.NewsMisled", spec := "newsMisled", unfollowed := true, recurses := true, plainKeys := false, apart := false }
def NewsMisledSaid : Prop := newsMisledRow.holds Try.pinned (OpenSpec.ofChange newsMisledSpec)

/-- ITS FALSE NEIGHBOUR: 'it returns false'. Refute it at one input. -/
def newsMisledWrong : ChangeSpec := { name := "newsMisled", fn := fun _ => fun
  | [d1, d2, d3] => { results := [.lit (.bool false)], args := [d1, d2, d3] }
  | _ => none }
def NewsMisledWrongFalsely : Prop := newsMisledRow.holds Try.pinned (OpenSpec.ofChange newsMisledWrong)

/-- 'oyezlaw04.NewsChecks': WHATEVER THE INPUT: true; the input reads as it did. -/
def newsChecksSpec : ChangeSpec := { name := "newsChecks", fn := fun _ => fun
  | [d1, d2] => { results := [.lit (.bool true)], args := [d1, d2] }
  | _ => none }
def newsChecksRow : OpenClaim := { program := "ytppbomajegnkeaa", sum := "b8e0ee03486c1b0b52983bb2e3900ab32167b1a64b745bdfb7205be4ac2c627c", func := "oyez/oyezlaw04.NewsChecks", spec := "newsChecks", unfollowed := true, recurses := true, plainKeys := false, apart := false }
def NewsChecksSaid : Prop := newsChecksRow.holds Try.pinned (OpenSpec.ofChange newsChecksSpec)

/-- ITS FALSE NEIGHBOUR: 'it returns false'. Refute it at one input. -/
def newsChecksWrong : ChangeSpec := { name := "newsChecks", fn := fun _ => fun
  | [d1, d2] => { results := [.lit (.bool false)], args := [d1, d2] }
  | _ => none }
def NewsChecksWrongFalsely : Prop := newsChecksRow.holds Try.pinned (OpenSpec.ofChange newsChecksWrong)

/- THE SECOND FORM. 'bulk': how many values and letters a reading holds, each counted each time it is reached (what is shared counts as often as it is met; a slice's spare places count too). A statement '..UptoSaid' is the law's where the arguments, and the package variables that the reading takes, are together of bulk at most 1048576: NARROWER than '..Said'. Prove '..Said' where nothing that the law and all that it calls make is longer than what came in: it says more and counts as full. Else prove '..UptoSaid'. A law counts once. -/
mutual
def uptoBulk {H : Type} : DataW H → Nat
  | .lit (.string bytes) => bytes.length + 1
  | .lit _ => 1
  | .nil => 1
  | .ptr d => uptoBulk d + 1
  | .slice elems spare => uptoBulkAll elems + uptoBulkAll spare + 1
  | .agg parts => uptoBulkAll parts + 1
  | .iface _ d => uptoBulk d + 1
  | .map entries => uptoBulkEntries entries + 1
  | .held _ => 1
def uptoBulkAll {H : Type} : List (DataW H) → Nat
  | [] => 0
  | d :: r => uptoBulk d + uptoBulkAll r
def uptoBulkEntries {H : Type} : List (Lit × DataW H) → Nat
  | [] => 0
  | x :: r => uptoBulkEntry x + uptoBulkEntries r
def uptoBulkEntry {H : Type} : Lit × DataW H → Nat
  | (.string bytes, d) => bytes.length + uptoBulk d + 1
  | (_, d) => uptoBulk d + 1
 end
def uptoSmall : (H : Type) → List (DataW H) → Bool := fun _ ds => decide (uptoBulkAll ds ≤ 1048576)
def OpenSpec.upto (s : _root_.Go.ChangeSpec) : _root_.Go.OpenSpec := { _root_.Go.OpenSpec.ofChange s with cond := some uptoSmall }

/-- 'oyezlaw04.NewsFurther', WHERE WHAT IT READS IS OF BULK AT MOST 1048576: true; the input reads as it did. -/
def newsFurtherUptoRow : OpenClaim := { program := "ytppbomajegnkeaa", sum := "b8e0ee03486c1b0b52983bb2e3900ab32167b1a64b745bdfb7205be4ac2c627c", func := "oyez/oyezlaw04.NewsFurther", spec := "newsFurther", unfollowed := true, recurses := true, plainKeys := false, apart := false, narrowed := true }
def NewsFurtherUptoSaid : Prop := newsFurtherUptoRow.holds Try.pinned (OpenSpec.upto newsFurtherSpec)

/-- 'oyezlaw04.NewsMisled', WHERE WHAT IT READS IS OF BULK AT MOST 1048576: true; the input reads as it did. -/
def newsMisledUptoRow : OpenClaim := { program := "ytppbomajegnkeaa", sum := "b8e0ee03486c1b0b52983bb2e3900ab32167b1a64b745bdfb7205be4ac2c627c", func := "oyez/oyezlaw04.NewsMisled", spec := "newsMisled", unfollowed := true, recurses := true, plainKeys := false, apart := false, narrowed := true }
def NewsMisledUptoSaid : Prop := newsMisledUptoRow.holds Try.pinned (OpenSpec.upto newsMisledSpec)

/-- 'oyezlaw04.NewsChecks', WHERE WHAT IT READS IS OF BULK AT MOST 1048576: true; the input reads as it did. -/
def newsChecksUptoRow : OpenClaim := { program := "ytppbomajegnkeaa", sum := "b8e0ee03486c1b0b52983bb2e3900ab32167b1a64b745bdfb7205be4ac2c627c", func := "oyez/oyezlaw04.NewsChecks", spec := "newsChecks", unfollowed := true, recurses := true, plainKeys := false, apart := false, narrowed := true }
def NewsChecksUptoSaid : Prop := newsChecksUptoRow.holds Try.pinned (OpenSpec.upto newsChecksSpec)

end Rows
end Go.Proofs.Ytppbomajegnkeaa
