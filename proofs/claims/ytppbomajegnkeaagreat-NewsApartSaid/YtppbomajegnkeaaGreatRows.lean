/-
  No cell of these rows narrows 'for every input' (looked for: loops, veiled, ifaces, maps, wideKeys, modest, calm, conditions, laid).
  DERIVED. THE GIVEN ROWS OF THIS SEAT. 13 by the template 'for every input the law returns true; each argument reads behind the call as it read before'; 0 by the template 'total and deterministic' (their statements: YtppbomajegnkeaaGreatTotals.lean).
  GIVEN WITH THE SEED: the statements are not yours to turn. If you find one false, say at which input.
  Laid BY PROGRAM, IN A SANDBOX (cutbox-rows.mjs): the forced cells as the released guide's own fill.sh prints them over the translation f01714efc579d167… (all of the seat's roots in one cut). By AI agents, Wed Nov 11 2026. No macro, syntax, notation, axiom, sorry.
-/
import Derived.Test.YtppbomajegnkeaaGreatChecked
import GoSem.Claim
import GoSem.ClaimJoined
import GoSem.ClaimMapViews
import Derived.JoinedTies
import Derived.KernelRfl
namespace Go.Proofs.YtppbomajegnkeaaGreat
/- THE CELL 'sum', in the pinned program and in every row, IS THE sha256 OF THE DUMP (.gsa) THAT YtppbomajegnkeaaGreatProg.lean LOADS. Nothing in Lean hashes anything: it is a label: what it is worth is what the hold of that sum in a sandbox is worth. -/
noncomputable def Tryz.pinned : Pinned := { name := "ytppbomajegnkeaagreat", sum := "f01714efc579d1677babf72635123fc41eee50e98bbab9a0e6ff7111512c5176", checked := Tryz.checked }
namespace Rows
def none {H : Type} : Left H := { results := [], args := [] }

/-- 'oyezlaw04.NewsLeft': WHATEVER THE INPUT: true; the input reads as it did. -/
def newsLeftSpec : ChangeSpec := { name := "newsLeft", fn := fun _ => fun
  | [d1, d2, d3] => { results := [.lit (.bool true)], args := [d1, d2, d3] }
  | _ => none }
def newsLeftRow : OpenClaim := { program := "ytppbomajegnkeaagreat", sum := "f01714efc579d1677babf72635123fc41eee50e98bbab9a0e6ff7111512c5176", func := "oyez/oyezlaw04.NewsLeft", spec := "newsLeft", unfollowed := true, recurses := true, plainKeys := false, apart := false }
def NewsLeftSaid : Prop := newsLeftRow.holds Tryz.pinned (OpenSpec.ofChange newsLeftSpec)

/-- ITS FALSE NEIGHBOUR: 'it returns false'. Refute it at one input. -/
def newsLeftWrong : ChangeSpec := { name := "newsLeft", fn := fun _ => fun
  | [d1, d2, d3] => { results := [.lit (.bool false)], args := [d1, d2, d3] }
  | _ => none }
def NewsLeftWrongFalsely : Prop := newsLeftRow.holds Tryz.pinned (OpenSpec.ofChange newsLeftWrong)

/-- 'oyezlaw04.NewsPaths': WHATEVER THE INPUT: true; the input reads as it did. -/
def newsPathsSpec : ChangeSpec := { name := "newsPaths", fn := fun _ => fun
  | [d1, d2, d3, d4, d5] => { results := [.lit (.bool true)], args := [d1, d2, d3, d4, d5] }
  | _ => none }
def newsPathsRow : OpenClaim := { program := "ytppbomajegnkeaagreat", sum := "f01714efc579d1677babf72635123fc41eee50e98bbab9a0e6ff7111512c5176", func := "oyez/oyezlaw04.NewsPaths", spec := "newsPaths", unfollowed := true, recurses := true, plainKeys := false, apart := false }
def NewsPathsSaid : Prop := newsPathsRow.holds Tryz.pinned (OpenSpec.ofChange newsPathsSpec)

/-- ITS FALSE NEIGHBOUR: 'it returns false'. Refute it at one input. -/
def newsPathsWrong : ChangeSpec := { name := "newsPaths", fn := fun _ => fun
  | [d1, d2, d3, d4, d5] => { results := [.lit (.bool false)], args := [d1, d2, d3, d4, d5] }
  | _ => none }
def NewsPathsWrongFalsely : Prop := newsPathsRow.holds Tryz.pinned (OpenSpec.ofChange newsPathsWrong)

/-- 'oyezlaw04.NewsMends': WHATEVER THE INPUT: true; the input reads as it did. -/
def newsMendsSpec : ChangeSpec := { name := "newsMends", fn := fun _ => fun
  | [d1, d2, d3, d4, d5] => { results := [.lit (.bool true)], args := [d1, d2, d3, d4, d5] }
  | _ => none }
def newsMendsRow : OpenClaim := { program := "ytppbomajegnkeaagreat", sum := "f01714efc579d1677babf72635123fc41eee50e98bbab9a0e6ff7111512c5176", func := "oyez/oyezlaw04.NewsMends", spec := "newsMends", unfollowed := true, recurses := true, plainKeys := false, apart := false }
def NewsMendsSaid : Prop := newsMendsRow.holds Tryz.pinned (OpenSpec.ofChange newsMendsSpec)

/-- ITS FALSE NEIGHBOUR: 'it returns false'. Refute it at one input. -/
def newsMendsWrong : ChangeSpec := { name := "newsMends", fn := fun _ => fun
  | [d1, d2, d3, d4, d5] => { results := [.lit (.bool false)], args := [d1, d2, d3, d4, d5] }
  | _ => none }
def NewsMendsWrongFalsely : Prop := newsMendsRow.holds Tryz.pinned (OpenSpec.ofChange newsMendsWrong)

/-- 'oyezlaw04.NewsSpare': WHATEVER THE INPUT: true; the input reads as it did. -/
def newsSpareSpec : ChangeSpec := { name := "newsSpare", fn := fun _ => fun
  | [d1, d2, d3] => { results := [.lit (.bool true)], args := [d1, d2, d3] }
  | _ => none }
def newsSpareRow : OpenClaim := { program := "ytppbomajegnkeaagreat", sum := "f01714efc579d1677babf72635123fc41eee50e98bbab9a0e6ff7111512c5176", func := "oyez/oyezlaw04.NewsSpare", spec := "newsSpare", unfollowed := true, recurses := true, plainKeys := false, apart := false }
def NewsSpareSaid : Prop := newsSpareRow.holds Tryz.pinned (OpenSpec.ofChange newsSpareSpec)

/-- ITS FALSE NEIGHBOUR: 'it returns false'. Refute it at one input. -/
def newsSpareWrong : ChangeSpec := { name := "newsSpare", fn := fun _ => fun
  | [d1, d2, d3] => { results := [.lit (.bool false)], args := [d1, d2, d3] }
  | _ => none }
def NewsSpareWrongFalsely : Prop := newsSpareRow.holds Tryz.pinned (OpenSpec.ofChange newsSpareWrong)

/-- 'oyezlaw04.NewsEvenings': WHATEVER THE INPUT: true; the input reads as it did. -/
def newsEveningsSpec : ChangeSpec := { name := "newsEvenings", fn := fun _ => fun
  | [d1, d2] => { results := [.lit (.bool true)], args := [d1, d2] }
  | _ => none }
def newsEveningsRow : OpenClaim := { program := "ytppbomajegnkeaagreat", sum := "f01714efc579d1677babf72635123fc41eee50e98bbab9a0e6ff7111512c5176", func := "oyez/oyezlaw04.NewsEvenings", spec := "newsEvenings", unfollowed := true, recurses := true, plainKeys := false, apart := false }
def NewsEveningsSaid : Prop := newsEveningsRow.holds Tryz.pinned (OpenSpec.ofChange newsEveningsSpec)

/-- ITS FALSE NEIGHBOUR: 'it returns false'. Refute it at one input. -/
def newsEveningsWrong : ChangeSpec := { name := "newsEvenings", fn := fun _ => fun
  | [d1, d2] => { results := [.lit (.bool false)], args := [d1, d2] }
  | _ => none }
def NewsEveningsWrongFalsely : Prop := newsEveningsRow.holds Tryz.pinned (OpenSpec.ofChange newsEveningsWrong)

/-- 'oyezlaw04.NewsNamed': WHATEVER THE INPUT: true; the input reads as it did. -/
def newsNamedSpec : ChangeSpec := { name := "newsNamed", fn := fun _ => fun
  | [d1, d2, d3, d4] => { results := [.lit (.bool true)], args := [d1, d2, d3, d4] }
  | _ => none }
def newsNamedRow : OpenClaim := { program := "ytppbomajegnkeaagreat", sum := "f01714efc579d1677babf72635123fc41eee50e98bbab9a0e6ff7111512c5176", func := "oyez/oyezlaw04.NewsNamed", spec := "newsNamed", unfollowed := true, recurses := true, plainKeys := false, apart := false }
def NewsNamedSaid : Prop := newsNamedRow.holds Tryz.pinned (OpenSpec.ofChange newsNamedSpec)

/-- ITS FALSE NEIGHBOUR: 'it returns false'. Refute it at one input. -/
def newsNamedWrong : ChangeSpec := { name := "newsNamed", fn := fun _ => fun
  | [d1, d2, d3, d4] => { results := [.lit (.bool false)], args := [d1, d2, d3, d4] }
  | _ => none }
def NewsNamedWrongFalsely : Prop := newsNamedRow.holds Tryz.pinned (OpenSpec.ofChange newsNamedWrong)

/-- 'oyezlaw04.NewsSpared': WHATEVER THE INPUT: true; the input reads as it did. -/
def newsSparedSpec : ChangeSpec := { name := "newsSpared", fn := fun _ => fun
  | [d1, d2, d3, d4] => { results := [.lit (.bool true)], args := [d1, d2, d3, d4] }
  | _ => none }
def newsSparedRow : OpenClaim := { program := "ytppbomajegnkeaagreat", sum := "f01714efc579d1677babf72635123fc41eee50e98bbab9a0e6ff7111512c5176", func := "oyez/oyezlaw04.NewsSpared", spec := "newsSpared", unfollowed := true, recurses := true, plainKeys := false, apart := false }
def NewsSparedSaid : Prop := newsSparedRow.holds Tryz.pinned (OpenSpec.ofChange newsSparedSpec)

/-- ITS FALSE NEIGHBOUR: 'it returns false'. Refute it at one input. -/
def newsSparedWrong : ChangeSpec := { name := "newsSpared", fn := fun _ => fun
  | [d1, d2, d3, d4] => { results := [.lit (.bool false)], args := [d1, d2, d3, d4] }
  | _ => none }
def NewsSparedWrongFalsely : Prop := newsSparedRow.holds Tryz.pinned (OpenSpec.ofChange newsSparedWrong)

/-- 'oyezlaw04.NewsAlone': WHATEVER THE INPUT: true; the input reads as it did. -/
def newsAloneSpec : ChangeSpec := { name := "newsAlone", fn := fun _ => fun
  | [d1, d2, d3, d4] => { results := [.lit (.bool true)], args := [d1, d2, d3, d4] }
  | _ => none }
def newsAloneRow : OpenClaim := { program := "ytppbomajegnkeaagreat", sum := "f01714efc579d1677babf72635123fc41eee50e98bbab9a0e6ff7111512c5176", func := "oyez/oyezlaw04.NewsAlone", spec := "newsAlone", unfollowed := true, recurses := true, plainKeys := false, apart := false }
def NewsAloneSaid : Prop := newsAloneRow.holds Tryz.pinned (OpenSpec.ofChange newsAloneSpec)

/-- ITS FALSE NEIGHBOUR: 'it returns false'. Refute it at one input. -/
def newsAloneWrong : ChangeSpec := { name := "newsAlone", fn := fun _ => fun
  | [d1, d2, d3, d4] => { results := [.lit (.bool false)], args := [d1, d2, d3, d4] }
  | _ => none }
def NewsAloneWrongFalsely : Prop := newsAloneRow.holds Tryz.pinned (OpenSpec.ofChange newsAloneWrong)

/-- 'oyezlaw04.NewsHolds': WHATEVER THE INPUT: true; the input reads as it did. -/
def newsHoldsSpec : ChangeSpec := { name := "newsHolds", fn := fun _ => fun
  | [d1, d2, d3, d4] => { results := [.lit (.bool true)], args := [d1, d2, d3, d4] }
  | _ => none }
def newsHoldsRow : OpenClaim := { program := "ytppbomajegnkeaagreat", sum := "f01714efc579d1677babf72635123fc41eee50e98bbab9a0e6ff7111512c5176", func := "oyez/oyezlaw04.NewsHolds", spec := "newsHolds", unfollowed := true, recurses := true, plainKeys := false, apart := false }
def NewsHoldsSaid : Prop := newsHoldsRow.holds Tryz.pinned (OpenSpec.ofChange newsHoldsSpec)

/-- ITS FALSE NEIGHBOUR: 'it returns false'. Refute it at one input. -/
def newsHoldsWrong : ChangeSpec := { name := "newsHolds", fn := fun _ => fun
  | [d1, d2, d3, d4] => { results := [.lit (.bool false)], args := [d1, d2, d3, d4] }
  | _ => none }
def NewsHoldsWrongFalsely : Prop := newsHoldsRow.holds Tryz.pinned (OpenSpec.ofChange newsHoldsWrong)

/-- 'oyezlaw04.NewsFewest': WHATEVER THE INPUT: true; the input reads as it did. -/
def newsFewestSpec : ChangeSpec := { name := "newsFewest", fn := fun _ => fun
  | [d1, d2, d3, d4] => { results := [.lit (.bool true)], args := [d1, d2, d3, d4] }
  | _ => none }
def newsFewestRow : OpenClaim := { program := "ytppbomajegnkeaagreat", sum := "f01714efc579d1677babf72635123fc41eee50e98bbab9a0e6ff7111512c5176", func := "oyez/oyezlaw04.NewsFewest", spec := "newsFewest", unfollowed := true, recurses := true, plainKeys := false, apart := false }
def NewsFewestSaid : Prop := newsFewestRow.holds Tryz.pinned (OpenSpec.ofChange newsFewestSpec)

/-- ITS FALSE NEIGHBOUR: 'it returns false'. Refute it at one input. -/
def newsFewestWrong : ChangeSpec := { name := "newsFewest", fn := fun _ => fun
  | [d1, d2, d3, d4] => { results := [.lit (.bool false)], args := [d1, d2, d3, d4] }
  | _ => none }
def NewsFewestWrongFalsely : Prop := newsFewestRow.holds Tryz.pinned (OpenSpec.ofChange newsFewestWrong)

/-- 'oyezlaw04.NewsHeard': WHATEVER THE INPUT: true; the input reads as it did. -/
def newsHeardSpec : ChangeSpec := { name := "newsHeard", fn := fun _ => fun
  | [d1, d2, d3, d4] => { results := [.lit (.bool true)], args := [d1, d2, d3, d4] }
  | _ => none }
def newsHeardRow : OpenClaim := { program := "ytppbomajegnkeaagreat", sum := "f01714efc579d1677babf72635123fc41eee50e98bbab9a0e6ff7111512c5176", func := "oyez/oyezlaw04.NewsHeard", spec := "newsHeard", unfollowed := true, recurses := true, plainKeys := false, apart := false }
def NewsHeardSaid : Prop := newsHeardRow.holds Tryz.pinned (OpenSpec.ofChange newsHeardSpec)

/-- ITS FALSE NEIGHBOUR: 'it returns false'. Refute it at one input. -/
def newsHeardWrong : ChangeSpec := { name := "newsHeard", fn := fun _ => fun
  | [d1, d2, d3, d4] => { results := [.lit (.bool false)], args := [d1, d2, d3, d4] }
  | _ => none }
def NewsHeardWrongFalsely : Prop := newsHeardRow.holds Tryz.pinned (OpenSpec.ofChange newsHeardWrong)

/-- 'oyezlaw04.NewsApart': WHATEVER THE INPUT: true; the input reads as it did. -/
def newsApartSpec : ChangeSpec := { name := "newsApart", fn := fun _ => fun
  | [d1, d2, d3, d4] => { results := [.lit (.bool true)], args := [d1, d2, d3, d4] }
  | _ => none }
def newsApartRow : OpenClaim := { program := "ytppbomajegnkeaagreat", sum := "f01714efc579d1677babf72635123fc41eee50e98bbab9a0e6ff7111512c5176", func := "oyez/oyezlaw04.NewsApart", spec := "newsApart", unfollowed := true, recurses := true, plainKeys := false, apart := false }
def NewsApartSaid : Prop := newsApartRow.holds Tryz.pinned (OpenSpec.ofChange newsApartSpec)

/-- ITS FALSE NEIGHBOUR: 'it returns false'. Refute it at one input. -/
def newsApartWrong : ChangeSpec := { name := "newsApart", fn := fun _ => fun
  | [d1, d2, d3, d4] => { results := [.lit (.bool false)], args := [d1, d2, d3, d4] }
  | _ => none }
def NewsApartWrongFalsely : Prop := newsApartRow.holds Tryz.pinned (OpenSpec.ofChange newsApartWrong)

/-- 'oyezlaw04.NewsSmall': WHATEVER THE INPUT: true; the input reads as it did. -/
def newsSmallSpec : ChangeSpec := { name := "newsSmall", fn := fun _ => fun
  | [] => { results := [.lit (.bool true)], args := [] }
  | _ => none }
def newsSmallRow : OpenClaim := { program := "ytppbomajegnkeaagreat", sum := "f01714efc579d1677babf72635123fc41eee50e98bbab9a0e6ff7111512c5176", func := "oyez/oyezlaw04.NewsSmall", spec := "newsSmall", unfollowed := true, recurses := true, plainKeys := false, apart := false }
def NewsSmallSaid : Prop := newsSmallRow.holds Tryz.pinned (OpenSpec.ofChange newsSmallSpec)

/-- ITS FALSE NEIGHBOUR: 'it returns false'. Refute it at one input. -/
def newsSmallWrong : ChangeSpec := { name := "newsSmall", fn := fun _ => fun
  | [] => { results := [.lit (.bool false)], args := [] }
  | _ => none }
def NewsSmallWrongFalsely : Prop := newsSmallRow.holds Tryz.pinned (OpenSpec.ofChange newsSmallWrong)

/- THE SECOND FORM. 'bulk': how many values and letters a reading holds, each counted each time it is reached (what is shared counts as often as it is met; a slice's spare places count too). A statement '..UptoSaid' is the law's where the arguments, and the package variables that the reading takes, are together of bulk at most 1048576: NARROWER than '..Said'. Prove '..Said' where nothing that the law and all that it calls make is longer than what came in: it says more and counts as full. Else prove '..UptoSaid'. A law counts once. -/
mutual
def uptoBulk {H : Type} : DataW H → Nat
  | .lit (.string bytes) => bytes.length + 1
  | .lit _ => 1
  | .nil => 1
  | .ptr d => uptoBulk d + 1
  | .slice elems spare => uptoBulkAll elems + uptoBulkAll spare + 1
  | .agg parts => uptoBulkAll parts + 1
  | .iface _ d => uptoBulk d + 1
  | .map entries => uptoBulkEntries entries + 1
  | .held _ => 1
def uptoBulkAll {H : Type} : List (DataW H) → Nat
  | [] => 0
  | d :: r => uptoBulk d + uptoBulkAll r
def uptoBulkEntries {H : Type} : List (Lit × DataW H) → Nat
  | [] => 0
  | x :: r => uptoBulkEntry x + uptoBulkEntries r
def uptoBulkEntry {H : Type} : Lit × DataW H → Nat
  | (.string bytes, d) => bytes.length + uptoBulk d + 1
  | (_, d) => uptoBulk d + 1
 end
def uptoSmall : (H : Type) → List (DataW H) → Bool := fun _ ds => decide (uptoBulkAll ds ≤ 1048576)
def OpenSpec.upto (s : _root_.Go.ChangeSpec) : _root_.Go.OpenSpec := { _root_.Go.OpenSpec.ofChange s with cond := some uptoSmall }

/-- 'oyezlaw04.NewsLeft', WHERE WHAT IT READS IS OF BULK AT MOST 1048576: true; the input reads as it did. -/
def newsLeftUptoRow : OpenClaim := { program := "ytppbomajegnkeaagreat", sum := "f01714efc579d1677babf72635123fc41eee50e98bbab9a0e6ff7111512c5176", func := "oyez/oyezlaw04.NewsLeft", spec := "newsLeft", unfollowed := true, recurses := true, plainKeys := false, apart := false, narrowed := true }
def NewsLeftUptoSaid : Prop := newsLeftUptoRow.holds Tryz.pinned (OpenSpec.upto newsLeftSpec)

/-- 'oyezlaw04.NewsPaths', WHERE WHAT IT READS IS OF BULK AT MOST 1048576: true; the input reads as it did. -/
def newsPathsUptoRow : OpenClaim := { program := "ytppbomajegnkeaagreat", sum := "f01714efc579d1677babf72635123fc41eee50e98bbab9a0e6ff7111512c5176", func := "oyez/oyezlaw04.NewsPaths", spec := "newsPaths", unfollowed := true, recurses := true, plainKeys := false, apart := false, narrowed := true }
def NewsPathsUptoSaid : Prop := newsPathsUptoRow.holds Tryz.pinned (OpenSpec.upto newsPathsSpec)

/-- 'oyezlaw04.NewsMends', WHERE WHAT IT READS IS OF BULK AT MOST 1048576: true; the input reads as it did. -/
def newsMendsUptoRow : OpenClaim := { program := "ytppbomajegnkeaagreat", sum := "f01714efc579d1677babf72635123fc41eee50e98bbab9a0e6ff7111512c5176", func := "oyez/oyezlaw04.NewsMends", spec := "newsMends", unfollowed := true, recurses := true, plainKeys := false, apart := false, narrowed := true }
def NewsMendsUptoSaid : Prop := newsMendsUptoRow.holds Tryz.pinned (OpenSpec.upto newsMendsSpec)

/-- 'oyezlaw04.NewsSpare', WHERE WHAT IT READS IS OF BULK AT MOST 1048576: true; the input reads as it did. -/
def newsSpareUptoRow : OpenClaim := { program := "ytppbomajegnkeaagreat", sum := "f01714efc579d1677babf72635123fc41eee50e98bbab9a0e6ff7111512c5176", func := "oyez/oyezlaw04.NewsSpare", spec := "newsSpare", unfollowed := true, recurses := true, plainKeys := false, apart := false, narrowed := true }
def NewsSpareUptoSaid : Prop := newsSpareUptoRow.holds Tryz.pinned (OpenSpec.upto newsSpareSpec)

/-- 'oyezlaw04.NewsEvenings', WHERE WHAT IT READS IS OF BULK AT MOST 1048576: true; the input reads as it did. -/
def newsEveningsUptoRow : OpenClaim := { program := "ytppbomajegnkeaagreat", sum := "f01714efc579d1677babf72635123fc41eee50e98bbab9a0e6ff7111512c5176", func := "oyez/oyezlaw04.NewsEvenings", spec := "newsEvenings", unfollowed := true, recurses := true, plainKeys := false, apart := false, narrowed := true }
def NewsEveningsUptoSaid : Prop := newsEveningsUptoRow.holds Tryz.pinned (OpenSpec.upto newsEveningsSpec)

/-- 'oyezlaw04.NewsNamed', WHERE WHAT IT READS IS OF BULK AT MOST 1048576: true; the input reads as it did. -/
def newsNamedUptoRow : OpenClaim := { program := "ytppbomajegnkeaagreat", sum := "f01714efc579d1677babf72635123fc41eee50e98bbab9a0e6ff7111512c5176", func := "oyez/oyezlaw04.NewsNamed", spec := "newsNamed", unfollowed := true, recurses := true, plainKeys := false, apart := false, narrowed := true }
def NewsNamedUptoSaid : Prop := newsNamedUptoRow.holds Tryz.pinned (OpenSpec.upto newsNamedSpec)

/-- 'oyezlaw04.NewsSpared', WHERE WHAT IT READS IS OF BULK AT MOST 1048576: true; the input reads as it did. -/
def newsSparedUptoRow : OpenClaim := { program := "ytppbomajegnkeaagreat", sum := "f01714efc579d1677babf72635123fc41eee50e98bbab9a0e6ff7111512c5176", func := "oyez/oyezlaw04.NewsSpared", spec := "newsSpared", unfollowed := true, recurses := true, plainKeys := false, apart := false, narrowed := true }
def NewsSparedUptoSaid : Prop := newsSparedUptoRow.holds Tryz.pinned (OpenSpec.upto newsSparedSpec)

/-- 'oyezlaw04.NewsAlone', WHERE WHAT IT READS IS OF BULK AT MOST 1048576: true; the input reads as it did. -/
def newsAloneUptoRow : OpenClaim := { program := "ytppbomajegnkeaagreat", sum := "f01714efc579d1677babf72635123fc41eee50e98bbab9a0e6ff7111512c5176", func := "oyez/oyezlaw04.NewsAlone", spec := "newsAlone", unfollowed := true, recurses := true, plainKeys := false, apart := false, narrowed := true }
def NewsAloneUptoSaid : Prop := newsAloneUptoRow.holds Tryz.pinned (OpenSpec.upto newsAloneSpec)

/-- 'oyezlaw04.NewsHolds', WHERE WHAT IT READS IS OF BULK AT MOST 1048576: true; the input reads as it did. -/
def newsHoldsUptoRow : OpenClaim := { program := "ytppbomajegnkeaagreat", sum := "f01714efc579d1677babf72635123fc41eee50e98bbab9a0e6ff7111512c5176", func := "oyez/oyezlaw04.NewsHolds", spec := "newsHolds", unfollowed := true, recurses := true, plainKeys := false, apart := false, narrowed := true }
def NewsHoldsUptoSaid : Prop := newsHoldsUptoRow.holds Tryz.pinned (OpenSpec.upto newsHoldsSpec)

/-- 'oyezlaw04.NewsFewest', WHERE WHAT IT READS IS OF BULK AT MOST 1048576: true; the input reads as it did. -/
def newsFewestUptoRow : OpenClaim := { program := "ytppbomajegnkeaagreat", sum := "f01714efc579d1677babf72635123fc41eee50e98bbab9a0e6ff7111512c5176", func := "oyez/oyezlaw04.NewsFewest", spec := "newsFewest", unfollowed := true, recurses := true, plainKeys := false, apart := false, narrowed := true }
def NewsFewestUptoSaid : Prop := newsFewestUptoRow.holds Tryz.pinned (OpenSpec.upto newsFewestSpec)

/-- 'oyezlaw04.NewsHeard', WHERE WHAT IT READS IS OF BULK AT MOST 1048576: true; the input reads as it did. -/
def newsHeardUptoRow : OpenClaim := { program := "ytppbomajegnkeaagreat", sum := "f01714efc579d1677babf72635123fc41eee50e98bbab9a0e6ff7111512c5176", func := "oyez/oyezlaw04.NewsHeard", spec := "newsHeard", unfollowed := true, recurses := true, plainKeys := false, apart := false, narrowed := true }
def NewsHeardUptoSaid : Prop := newsHeardUptoRow.holds Tryz.pinned (OpenSpec.upto newsHeardSpec)

/-- 'oyezlaw04.NewsApart', WHERE WHAT IT READS IS OF BULK AT MOST 1048576: true; the input reads as it did. -/
def newsApartUptoRow : OpenClaim := { program := "ytppbomajegnkeaagreat", sum := "f01714efc579d1677babf72635123fc41eee50e98bbab9a0e6ff7111512c5176", func := "oyez/oyezlaw04.NewsApart", spec := "newsApart", unfollowed := true, recurses := true, plainKeys := false, apart := false, narrowed := true }
def NewsApartUptoSaid : Prop := newsApartUptoRow.holds Tryz.pinned (OpenSpec.upto newsApartSpec)

/-- 'oyezlaw04.NewsSmall', WHERE WHAT IT READS IS OF BULK AT MOST 1048576: true; the input reads as it did. -/
def newsSmallUptoRow : OpenClaim := { program := "ytppbomajegnkeaagreat", sum := "f01714efc579d1677babf72635123fc41eee50e98bbab9a0e6ff7111512c5176", func := "oyez/oyezlaw04.NewsSmall", spec := "newsSmall", unfollowed := true, recurses := true, plainKeys := false, apart := false, narrowed := true }
def NewsSmallUptoSaid : Prop := newsSmallUptoRow.holds Tryz.pinned (OpenSpec.upto newsSmallSpec)

end Rows
end Go.Proofs.YtppbomajegnkeaaGreat
