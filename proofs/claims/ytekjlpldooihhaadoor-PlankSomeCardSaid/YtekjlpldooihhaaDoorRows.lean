/-
  NARROWER THAN 'FOR EVERY INPUT', by the rows' own cells (each row's printed sentence says how): PlankSpots: laid · PlankLays: laid · PlankFewests: laid · PlankTrue: laid · PlankSome: laid · PlankLay: laid · PlankFewest: laid · PlankMost: laid · PlankLacks: laid · PlankLook: laid · PlankKnows: laid · PlankTurn: laid · PlankKnown: laid.
  DERIVED. THE GIVEN ROWS OF THIS SEAT. 13 by the template 'for every input the law returns true; each argument reads behind the call as it read before'; 0 by the template 'total and deterministic' (their statements: YtekjlpldooihhaaDoorTotals.lean).
  GIVEN WITH THE SEED: the statements are not yours to turn. If you find one false, say at which input.
  Laid BY PROGRAM, IN A SANDBOX (cutbox-rows.mjs): the forced cells as the released guide's own fill.sh prints them over the translation 91c1f460dc66b687… (all of the seat's roots in one cut). By AI agents, Wed Nov 11 2026. No macro, syntax, notation, axiom, sorry.
-/
import Derived.Test.YtekjlpldooihhaaDoorChecked
import GoSem.Claim
import GoSem.ClaimJoined
import GoSem.ClaimMapViews
import Derived.JoinedTies
import Derived.KernelRfl
namespace Go.Proofs.YtekjlpldooihhaaDoor
/- THE CELL 'sum', in the pinned program and in every row, IS THE sha256 OF THE DUMP (.gsa) THAT YtekjlpldooihhaaDoorProg.lean LOADS. Nothing in Lean hashes anything: it is a label: what it is worth is what the hold of that sum in a sandbox is worth. -/
noncomputable def Tryd.pinned : Pinned := { name := "ytekjlpldooihhaadoor", sum := "91c1f460dc66b6877975be81493285a49910481e961b2445695f369737f62b13", checked := Tryd.checked }
namespace Rows
def none {H : Type} : Left H := { results := [], args := [] }

/- WHAT THE LISTED PACKAGE-LEVEL VARIABLES READ AS WHEN THE CALL BEGINS. Each datum BY PROGRAM (the guide's laid-datum.mjs) off the statement by which the dump's own 'gosem.cut.vars' lays the variable. In a bare row this is a premise. The card (YtekjlpldooihhaaDoorCards.lean) ties it to the program's text. -/
def laid_skewbald_plank_hits {H : Type} : DataW H := .iface "func table" (.agg [.iface "func" (.lit (.string [40, 115, 107, 101, 119, 98, 97, 108, 100, 47, 112, 108, 97, 110, 107, 46, 107, 110, 111, 116, 41, 46, 99, 97, 110])), .iface "func" (.lit (.string [40, 115, 107, 101, 119, 98, 97, 108, 100, 47, 112, 108, 97, 110, 107, 46, 107, 110, 111, 116, 41, 46, 109, 117, 115, 116]))])
def laid_skewbald_plank_nowhere {H : Type} : DataW H := .agg [.lit (.int .i64 (-1)), .lit (.int .i64 (-1)), .lit (.int .i64 (-1))]

/-- 'skewbaldlaw01.PlankSpots': WHATEVER THE INPUT: true; the input reads as it did. -/
def plankSpotsSpec : ChangeSpec := { name := "plankSpots", fn := fun _ => fun
  | [d1, d2] => { results := [.lit (.bool true)], args := [d1, d2] }
  | _ => none }
def plankSpotsRow : OpenClaim := { program := "ytekjlpldooihhaadoor", sum := "91c1f460dc66b6877975be81493285a49910481e961b2445695f369737f62b13", func := "skewbald/skewbaldlaw01.PlankSpots", spec := "plankSpots", unfollowed := true, recurses := true, named := ["skewbald/plank.nowhere", "skewbald/plank.hits"], plainKeys := false, apart := false, laid := [("skewbald/plank.hits", laid_skewbald_plank_hits), ("skewbald/plank.nowhere", laid_skewbald_plank_nowhere)] }
def PlankSpotsSaid : Prop := plankSpotsRow.holds Tryd.pinned (OpenSpec.ofChange plankSpotsSpec)

/-- ITS FALSE NEIGHBOUR: 'it returns false'. Refute it at one input. -/
def plankSpotsWrong : ChangeSpec := { name := "plankSpots", fn := fun _ => fun
  | [d1, d2] => { results := [.lit (.bool false)], args := [d1, d2] }
  | _ => none }
def PlankSpotsWrongFalsely : Prop := plankSpotsRow.holds Tryd.pinned (OpenSpec.ofChange plankSpotsWrong)

/-- 'skewbaldlaw01.PlankLays': WHATEVER THE INPUT: true; the input reads as it did. -/
def plankLaysSpec : ChangeSpec := { name := "plankLays", fn := fun _ => fun
  | [d1, d2, d3] => { results := [.lit (.bool true)], args := [d1, d2, d3] }
  | _ => none }
def plankLaysRow : OpenClaim := { program := "ytekjlpldooihhaadoor", sum := "91c1f460dc66b6877975be81493285a49910481e961b2445695f369737f62b13", func := "skewbald/skewbaldlaw01.PlankLays", spec := "plankLays", unfollowed := true, recurses := true, named := ["skewbald/plank.nowhere", "skewbald/plank.hits"], plainKeys := false, apart := false, laid := [("skewbald/plank.hits", laid_skewbald_plank_hits), ("skewbald/plank.nowhere", laid_skewbald_plank_nowhere)] }
def PlankLaysSaid : Prop := plankLaysRow.holds Tryd.pinned (OpenSpec.ofChange plankLaysSpec)

/-- ITS FALSE NEIGHBOUR: 'it returns false'. Refute it at one input. -/
def plankLaysWrong : ChangeSpec := { name := "plankLays", fn := fun _ => fun
  | [d1, d2, d3] => { results := [.lit (.bool false)], args := [d1, d2, d3] }
  | _ => none }
def PlankLaysWrongFalsely : Prop := plankLaysRow.holds Tryd.pinned (OpenSpec.ofChange plankLaysWrong)

/-- 'skewbaldlaw01.PlankFewests': WHATEVER THE INPUT: true; the input reads as it did. -/
def plankFewestsSpec : ChangeSpec := { name := "plankFewests", fn := fun _ => fun
  | [d] => { results := [.lit (.bool true)], args := [d] }
  | _ => none }
def plankFewestsRow : OpenClaim := { program := "ytekjlpldooihhaadoor", sum := "91c1f460dc66b6877975be81493285a49910481e961b2445695f369737f62b13", func := "skewbald/skewbaldlaw01.PlankFewests", spec := "plankFewests", unfollowed := true, recurses := true, named := ["skewbald/plank.nowhere", "skewbald/plank.hits"], plainKeys := false, apart := false, laid := [("skewbald/plank.hits", laid_skewbald_plank_hits), ("skewbald/plank.nowhere", laid_skewbald_plank_nowhere)] }
def PlankFewestsSaid : Prop := plankFewestsRow.holds Tryd.pinned (OpenSpec.ofChange plankFewestsSpec)

/-- ITS FALSE NEIGHBOUR: 'it returns false'. Refute it at one input. -/
def plankFewestsWrong : ChangeSpec := { name := "plankFewests", fn := fun _ => fun
  | [d] => { results := [.lit (.bool false)], args := [d] }
  | _ => none }
def PlankFewestsWrongFalsely : Prop := plankFewestsRow.holds Tryd.pinned (OpenSpec.ofChange plankFewestsWrong)

/-- 'skewbaldlaw01.PlankTrue': WHATEVER THE INPUT: true; the input reads as it did. -/
def plankTrueSpec : ChangeSpec := { name := "plankTrue", fn := fun _ => fun
  | [d1, d2, d3] => { results := [.lit (.bool true)], args := [d1, d2, d3] }
  | _ => none }
def plankTrueRow : OpenClaim := { program := "ytekjlpldooihhaadoor", sum := "91c1f460dc66b6877975be81493285a49910481e961b2445695f369737f62b13", func := "skewbald/skewbaldlaw01.PlankTrue", spec := "plankTrue", unfollowed := true, recurses := true, named := ["skewbald/plank.nowhere", "skewbald/plank.hits"], plainKeys := false, apart := false, laid := [("skewbald/plank.hits", laid_skewbald_plank_hits), ("skewbald/plank.nowhere", laid_skewbald_plank_nowhere)] }
def PlankTrueSaid : Prop := plankTrueRow.holds Tryd.pinned (OpenSpec.ofChange plankTrueSpec)

/-- ITS FALSE NEIGHBOUR: 'it returns false'. Refute it at one input. -/
def plankTrueWrong : ChangeSpec := { name := "plankTrue", fn := fun _ => fun
  | [d1, d2, d3] => { results := [.lit (.bool false)], args := [d1, d2, d3] }
  | _ => none }
def PlankTrueWrongFalsely : Prop := plankTrueRow.holds Tryd.pinned (OpenSpec.ofChange plankTrueWrong)

/-- 'skewbaldlaw01.PlankSome': WHATEVER THE INPUT: true; the input reads as it did. -/
def plankSomeSpec : ChangeSpec := { name := "plankSome", fn := fun _ => fun
  | [d1, d2] => { results := [.lit (.bool true)], args := [d1, d2] }
  | _ => none }
def plankSomeRow : OpenClaim := { program := "ytekjlpldooihhaadoor", sum := "91c1f460dc66b6877975be81493285a49910481e961b2445695f369737f62b13", func := "skewbald/skewbaldlaw01.PlankSome", spec := "plankSome", unfollowed := true, recurses := true, named := ["skewbald/plank.nowhere", "skewbald/plank.hits"], plainKeys := false, apart := false, laid := [("skewbald/plank.hits", laid_skewbald_plank_hits), ("skewbald/plank.nowhere", laid_skewbald_plank_nowhere)] }
def PlankSomeSaid : Prop := plankSomeRow.holds Tryd.pinned (OpenSpec.ofChange plankSomeSpec)

/-- ITS FALSE NEIGHBOUR: 'it returns false'. Refute it at one input. -/
def plankSomeWrong : ChangeSpec := { name := "plankSome", fn := fun _ => fun
  | [d1, d2] => { results := [.lit (.bool false)], args := [d1, d2] }
  | _ => none }
def PlankSomeWrongFalsely : Prop := plankSomeRow.holds Tryd.pinned (OpenSpec.ofChange plankSomeWrong)

/-- 'skewbaldlaw01.PlankLay': WHATEVER THE INPUT: true; the input reads as it did. -/
def plankLaySpec : ChangeSpec := { name := "plankLay", fn := fun _ => fun
  | [d1, d2, d3] => { results := [.lit (.bool true)], args := [d1, d2, d3] }
  | _ => none }
def plankLayRow : OpenClaim := { program := "ytekjlpldooihhaadoor", sum := "91c1f460dc66b6877975be81493285a49910481e961b2445695f369737f62b13", func := "skewbald/skewbaldlaw01.PlankLay", spec := "plankLay", unfollowed := true, recurses := true, named := ["skewbald/plank.nowhere", "skewbald/plank.hits"], plainKeys := false, apart := false, laid := [("skewbald/plank.hits", laid_skewbald_plank_hits), ("skewbald/plank.nowhere", laid_skewbald_plank_nowhere)] }
def PlankLaySaid : Prop := plankLayRow.holds Tryd.pinned (OpenSpec.ofChange plankLaySpec)

/-- ITS FALSE NEIGHBOUR: 'it returns false'. Refute it at one input. -/
def plankLayWrong : ChangeSpec := { name := "plankLay", fn := fun _ => fun
  | [d1, d2, d3] => { results := [.lit (.bool false)], args := [d1, d2, d3] }
  | _ => none }
def PlankLayWrongFalsely : Prop := plankLayRow.holds Tryd.pinned (OpenSpec.ofChange plankLayWrong)

/-- 'skewbaldlaw01.PlankFewest': WHATEVER THE INPUT: true; the input reads as it did. -/
def plankFewestSpec : ChangeSpec := { name := "plankFewest", fn := fun _ => fun
  | [d1, d2] => { results := [.lit (.bool true)], args := [d1, d2] }
  | _ => none }
def plankFewestRow : OpenClaim := { program := "ytekjlpldooihhaadoor", sum := "91c1f460dc66b6877975be81493285a49910481e961b2445695f369737f62b13", func := "skewbald/skewbaldlaw01.PlankFewest", spec := "plankFewest", unfollowed := true, recurses := true, named := ["skewbald/plank.nowhere", "skewbald/plank.hits"], plainKeys := false, apart := false, laid := [("skewbald/plank.hits", laid_skewbald_plank_hits), ("skewbald/plank.nowhere", laid_skewbald_plank_nowhere)] }
def PlankFewestSaid : Prop := plankFewestRow.holds Tryd.pinned (OpenSpec.ofChange plankFewestSpec)

/-- ITS FALSE NEIGHBOUR: 'it returns false'. Refute it at one input. -/
def plankFewestWrong : ChangeSpec := { name := "plankFewest", fn := fun _ => fun
  | [d1, d2] => { results := [.lit (.bool false)], args := [d1, d2] }
  | _ => none }
def PlankFewestWrongFalsely : Prop := plankFewestRow.holds Tryd.pinned (OpenSpec.ofChange plankFewestWrong)

/-- 'skewbaldlaw01.PlankMost': WHATEVER THE INPUT: true; the input reads as it did. -/
def plankMostSpec : ChangeSpec := { name := "plankMost", fn := fun _ => fun
  | [d1, d2] => { results := [.lit (.bool true)], args := [d1, d2] }
  | _ => none }
def plankMostRow : OpenClaim := { program := "ytekjlpldooihhaadoor", sum := "91c1f460dc66b6877975be81493285a49910481e961b2445695f369737f62b13", func := "skewbald/skewbaldlaw01.PlankMost", spec := "plankMost", unfollowed := true, recurses := true, named := ["skewbald/plank.nowhere", "skewbald/plank.hits"], plainKeys := false, apart := false, laid := [("skewbald/plank.hits", laid_skewbald_plank_hits), ("skewbald/plank.nowhere", laid_skewbald_plank_nowhere)] }
def PlankMostSaid : Prop := plankMostRow.holds Tryd.pinned (OpenSpec.ofChange plankMostSpec)

/-- ITS FALSE NEIGHBOUR: 'it returns false'. Refute it at one input. -/
def plankMostWrong : ChangeSpec := { name := "plankMost", fn := fun _ => fun
  | [d1, d2] => { results := [.lit (.bool false)], args := [d1, d2] }
  | _ => none }
def PlankMostWrongFalsely : Prop := plankMostRow.holds Tryd.pinned (OpenSpec.ofChange plankMostWrong)

/-- 'skewbaldlaw01.PlankLacks': WHATEVER THE INPUT: true; the input reads as it did. -/
def plankLacksSpec : ChangeSpec := { name := "plankLacks", fn := fun _ => fun
  | [d] => { results := [.lit (.bool true)], args := [d] }
  | _ => none }
def plankLacksRow : OpenClaim := { program := "ytekjlpldooihhaadoor", sum := "91c1f460dc66b6877975be81493285a49910481e961b2445695f369737f62b13", func := "skewbald/skewbaldlaw01.PlankLacks", spec := "plankLacks", unfollowed := true, recurses := true, named := ["skewbald/plank.nowhere", "skewbald/plank.hits"], plainKeys := false, apart := false, laid := [("skewbald/plank.hits", laid_skewbald_plank_hits), ("skewbald/plank.nowhere", laid_skewbald_plank_nowhere)] }
def PlankLacksSaid : Prop := plankLacksRow.holds Tryd.pinned (OpenSpec.ofChange plankLacksSpec)

/-- ITS FALSE NEIGHBOUR: 'it returns false'. Refute it at one input. -/
def plankLacksWrong : ChangeSpec := { name := "plankLacks", fn := fun _ => fun
  | [d] => { results := [.lit (.bool false)], args := [d] }
  | _ => none }
def PlankLacksWrongFalsely : Prop := plankLacksRow.holds Tryd.pinned (OpenSpec.ofChange plankLacksWrong)

/-- 'skewbaldlaw01.PlankLook': WHATEVER THE INPUT: true; the input reads as it did. -/
def plankLookSpec : ChangeSpec := { name := "plankLook", fn := fun _ => fun
  | [d1, d2] => { results := [.lit (.bool true)], args := [d1, d2] }
  | _ => none }
def plankLookRow : OpenClaim := { program := "ytekjlpldooihhaadoor", sum := "91c1f460dc66b6877975be81493285a49910481e961b2445695f369737f62b13", func := "skewbald/skewbaldlaw01.PlankLook", spec := "plankLook", unfollowed := true, recurses := true, named := ["skewbald/plank.nowhere", "skewbald/plank.hits"], plainKeys := false, apart := false, laid := [("skewbald/plank.hits", laid_skewbald_plank_hits), ("skewbald/plank.nowhere", laid_skewbald_plank_nowhere)] }
def PlankLookSaid : Prop := plankLookRow.holds Tryd.pinned (OpenSpec.ofChange plankLookSpec)

/-- ITS FALSE NEIGHBOUR: 'it returns false'. Refute it at one input. -/
def plankLookWrong : ChangeSpec := { name := "plankLook", fn := fun _ => fun
  | [d1, d2] => { results := [.lit (.bool false)], args := [d1, d2] }
  | _ => none }
def PlankLookWrongFalsely : Prop := plankLookRow.holds Tryd.pinned (OpenSpec.ofChange plankLookWrong)

/-- 'skewbaldlaw01.PlankKnows': WHATEVER THE INPUT: true; the input reads as it did. -/
def plankKnowsSpec : ChangeSpec := { name := "plankKnows", fn := fun _ => fun
  | [d1, d2] => { results := [.lit (.bool true)], args := [d1, d2] }
  | _ => none }
def plankKnowsRow : OpenClaim := { program := "ytekjlpldooihhaadoor", sum := "91c1f460dc66b6877975be81493285a49910481e961b2445695f369737f62b13", func := "skewbald/skewbaldlaw01.PlankKnows", spec := "plankKnows", unfollowed := true, recurses := true, named := ["skewbald/plank.nowhere", "skewbald/plank.hits"], plainKeys := false, apart := false, laid := [("skewbald/plank.hits", laid_skewbald_plank_hits), ("skewbald/plank.nowhere", laid_skewbald_plank_nowhere)] }
def PlankKnowsSaid : Prop := plankKnowsRow.holds Tryd.pinned (OpenSpec.ofChange plankKnowsSpec)

/-- ITS FALSE NEIGHBOUR: 'it returns false'. Refute it at one input. -/
def plankKnowsWrong : ChangeSpec := { name := "plankKnows", fn := fun _ => fun
  | [d1, d2] => { results := [.lit (.bool false)], args := [d1, d2] }
  | _ => none }
def PlankKnowsWrongFalsely : Prop := plankKnowsRow.holds Tryd.pinned (OpenSpec.ofChange plankKnowsWrong)

/-- 'skewbaldlaw01.PlankTurn': WHATEVER THE INPUT: true; the input reads as it did. -/
def plankTurnSpec : ChangeSpec := { name := "plankTurn", fn := fun _ => fun
  | [d1, d2] => { results := [.lit (.bool true)], args := [d1, d2] }
  | _ => none }
def plankTurnRow : OpenClaim := { program := "ytekjlpldooihhaadoor", sum := "91c1f460dc66b6877975be81493285a49910481e961b2445695f369737f62b13", func := "skewbald/skewbaldlaw01.PlankTurn", spec := "plankTurn", unfollowed := true, recurses := true, named := ["skewbald/plank.nowhere", "skewbald/plank.hits"], plainKeys := false, apart := false, laid := [("skewbald/plank.hits", laid_skewbald_plank_hits), ("skewbald/plank.nowhere", laid_skewbald_plank_nowhere)] }
def PlankTurnSaid : Prop := plankTurnRow.holds Tryd.pinned (OpenSpec.ofChange plankTurnSpec)

/-- ITS FALSE NEIGHBOUR: 'it returns false'. Refute it at one input. -/
def plankTurnWrong : ChangeSpec := { name := "plankTurn", fn := fun _ => fun
  | [d1, d2] => { results := [.lit (.bool false)], args := [d1, d2] }
  | _ => none }
def PlankTurnWrongFalsely : Prop := plankTurnRow.holds Tryd.pinned (OpenSpec.ofChange plankTurnWrong)

/-- 'skewbaldlaw01.PlankKnown': WHATEVER THE INPUT: true; the input reads as it did. -/
def plankKnownSpec : ChangeSpec := { name := "plankKnown", fn := fun _ => fun
  | [] => { results := [.lit (.bool true)], args := [] }
  | _ => none }
def plankKnownRow : OpenClaim := { program := "ytekjlpldooihhaadoor", sum := "91c1f460dc66b6877975be81493285a49910481e961b2445695f369737f62b13", func := "skewbald/skewbaldlaw01.PlankKnown", spec := "plankKnown", unfollowed := true, recurses := true, named := ["skewbald/plank.nowhere", "skewbald/plank.hits"], plainKeys := false, apart := false, laid := [("skewbald/plank.hits", laid_skewbald_plank_hits), ("skewbald/plank.nowhere", laid_skewbald_plank_nowhere)] }
def PlankKnownSaid : Prop := plankKnownRow.holds Tryd.pinned (OpenSpec.ofChange plankKnownSpec)

/-- ITS FALSE NEIGHBOUR: 'it returns false'. Refute it at one input. -/
def plankKnownWrong : ChangeSpec := { name := "plankKnown", fn := fun _ => fun
  | [] => { results := [.lit (.bool false)], args := [] }
  | _ => none }
def PlankKnownWrongFalsely : Prop := plankKnownRow.holds Tryd.pinned (OpenSpec.ofChange plankKnownWrong)

/- THE SECOND FORM. 'bulk': how many values and letters a reading holds, each counted each time it is reached (what is shared counts as often as it is met; a slice's spare places count too). A statement '..UptoSaid' is the law's where the arguments, and the package variables that the reading takes, are together of bulk at most 1048576: NARROWER than '..Said'. Prove '..Said' where nothing that the law and all that it calls make is longer than what came in: it says more and counts as full. Else prove '..UptoSaid'. A law counts once. -/
mutual
def uptoBulk {H : Type} : DataW H → Nat
  | .lit (.string bytes) => bytes.length + 1
  | .lit _ => 1
  | .nil => 1
  | .ptr d => uptoBulk d + 1
  | .slice elems spare => uptoBulkAll elems + uptoBulkAll spare + 1
  | .agg parts => uptoBulkAll parts + 1
  | .iface _ d => uptoBulk d + 1
  | .map entries => uptoBulkEntries entries + 1
  | .held _ => 1
def uptoBulkAll {H : Type} : List (DataW H) → Nat
  | [] => 0
  | d :: r => uptoBulk d + uptoBulkAll r
def uptoBulkEntries {H : Type} : List (Lit × DataW H) → Nat
  | [] => 0
  | x :: r => uptoBulkEntry x + uptoBulkEntries r
def uptoBulkEntry {H : Type} : Lit × DataW H → Nat
  | (.string bytes, d) => bytes.length + uptoBulk d + 1
  | (_, d) => uptoBulk d + 1
 end
def uptoSmall : (H : Type) → List (DataW H) → Bool := fun _ ds => decide (uptoBulkAll ds ≤ 1048576)
def OpenSpec.upto (s : _root_.Go.ChangeSpec) : _root_.Go.OpenSpec := { _root_.Go.OpenSpec.ofChange s with cond := some uptoSmall }

/-- 'skewbaldlaw01.PlankSpots', WHERE WHAT IT READS IS OF BULK AT MOST 1048576: true; the input reads as it did. -/
def plankSpotsUptoRow : OpenClaim := { program := "ytekjlpldooihhaadoor", sum := "91c1f460dc66b6877975be81493285a49910481e961b2445695f369737f62b13", func := "skewbald/skewbaldlaw01.PlankSpots", spec := "plankSpots", unfollowed := true, recurses := true, named := ["skewbald/plank.nowhere", "skewbald/plank.hits"], plainKeys := false, apart := false, laid := [("skewbald/plank.hits", laid_skewbald_plank_hits), ("skewbald/plank.nowhere", laid_skewbald_plank_nowhere)], narrowed := true }
def PlankSpotsUptoSaid : Prop := plankSpotsUptoRow.holds Tryd.pinned (OpenSpec.upto plankSpotsSpec)

/-- 'skewbaldlaw01.PlankLays', WHERE WHAT IT READS IS OF BULK AT MOST 1048576: true; the input reads as it did. -/
def plankLaysUptoRow : OpenClaim := { program := "ytekjlpldooihhaadoor", sum := "91c1f460dc66b6877975be81493285a49910481e961b2445695f369737f62b13", func := "skewbald/skewbaldlaw01.PlankLays", spec := "plankLays", unfollowed := true, recurses := true, named := ["skewbald/plank.nowhere", "skewbald/plank.hits"], plainKeys := false, apart := false, laid := [("skewbald/plank.hits", laid_skewbald_plank_hits), ("skewbald/plank.nowhere", laid_skewbald_plank_nowhere)], narrowed := true }
def PlankLaysUptoSaid : Prop := plankLaysUptoRow.holds Tryd.pinned (OpenSpec.upto plankLaysSpec)

/-- 'skewbaldlaw01.PlankFewests', WHERE WHAT IT READS IS OF BULK AT MOST 1048576: true; the input reads as it did. -/
def plankFewestsUptoRow : OpenClaim := { program := "ytekjlpldooihhaadoor", sum := "91c1f460dc66b6877975be81493285a49910481e961b2445695f369737f62b13", func := "skewbald/skewbaldlaw01.PlankFewests", spec := "plankFewests", unfollowed := true, recurses := true, named := ["skewbald/plank.nowhere", "skewbald/plank.hits"], plainKeys := false, apart := false, laid := [("skewbald/plank.hits", laid_skewbald_plank_hits), ("skewbald/plank.nowhere", laid_skewbald_plank_nowhere)], narrowed := true }
def PlankFewestsUptoSaid : Prop := plankFewestsUptoRow.holds Tryd.pinned (OpenSpec.upto plankFewestsSpec)

/-- 'skewbaldlaw01.PlankTrue', WHERE WHAT IT READS IS OF BULK AT MOST 1048576: true; the input reads as it did. -/
def plankTrueUptoRow : OpenClaim := { program := "ytekjlpldooihhaadoor", sum := "91c1f460dc66b6877975be81493285a49910481e961b2445695f369737f62b13", func := "skewbald/skewbaldlaw01.PlankTrue", spec := "plankTrue", unfollowed := true, recurses := true, named := ["skewbald/plank.nowhere", "skewbald/plank.hits"], plainKeys := false, apart := false, laid := [("skewbald/plank.hits", laid_skewbald_plank_hits), ("skewbald/plank.nowhere", laid_skewbald_plank_nowhere)], narrowed := true }
def PlankTrueUptoSaid : Prop := plankTrueUptoRow.holds Tryd.pinned (OpenSpec.upto plankTrueSpec)

/-- 'skewbaldlaw01.PlankSome', WHERE WHAT IT READS IS OF BULK AT MOST 1048576: true; the input reads as it did. -/
def plankSomeUptoRow : OpenClaim := { program := "ytekjlpldooihhaadoor", sum := "91c1f460dc66b6877975be81493285a49910481e961b2445695f369737f62b13", func := "skewbald/skewbaldlaw01.PlankSome", spec := "plankSome", unfollowed := true, recurses := true, named := ["skewbald/plank.nowhere", "skewbald/plank.hits"], plainKeys := false, apart := false, laid := [("skewbald/plank.hits", laid_skewbald_plank_hits), ("skewbald/plank.nowhere", laid_skewbald_plank_nowhere)], narrowed := true }
def PlankSomeUptoSaid : Prop := plankSomeUptoRow.holds Tryd.pinned (OpenSpec.upto plankSomeSpec)

/-- 'skewbaldlaw01.PlankLay', WHERE WHAT IT READS IS OF BULK AT MOST 1048576: true; the input reads as it did. -/
def plankLayUptoRow : OpenClaim := { program := "ytekjlpldooihhaadoor", sum := "91c1f460dc66b6877975be81493285a49910481e961b2445695f369737f62b13", func := "skewbald/skewbaldlaw01.PlankLay", spec := "plankLay", unfollowed := true, recurses := true, named := ["skewbald/plank.nowhere", "skewbald/plank.hits"], plainKeys := false, apart := false, laid := [("skewbald/plank.hits", laid_skewbald_plank_hits), ("skewbald/plank.nowhere", laid_skewbald_plank_nowhere)], narrowed := true }
def PlankLayUptoSaid : Prop := plankLayUptoRow.holds Tryd.pinned (OpenSpec.upto plankLaySpec)

/-- 'skewbaldlaw01.PlankFewest', WHERE WHAT IT READS IS OF BULK AT MOST 1048576: true; the input reads as it did. -/
def plankFewestUptoRow : OpenClaim := { program := "ytekjlpldooihhaadoor", sum := "91c1f460dc66b6877975be81493285a49910481e961b2445695f369737f62b13", func := "skewbald/skewbaldlaw01.PlankFewest", spec := "plankFewest", unfollowed := true, recurses := true, named := ["skewbald/plank.nowhere", "skewbald/plank.hits"], plainKeys := false, apart := false, laid := [("skewbald/plank.hits", laid_skewbald_plank_hits), ("skewbald/plank.nowhere", laid_skewbald_plank_nowhere)], narrowed := true }
def PlankFewestUptoSaid : Prop := plankFewestUptoRow.holds Tryd.pinned (OpenSpec.upto plankFewestSpec)

/-- 'skewbaldlaw01.PlankMost', WHERE WHAT IT READS IS OF BULK AT MOST 1048576: true; the input reads as it did. -/
def plankMostUptoRow : OpenClaim := { program := "ytekjlpldooihhaadoor", sum := "91c1f460dc66b6877975be81493285a49910481e961b2445695f369737f62b13", func := "skewbald/skewbaldlaw01.PlankMost", spec := "plankMost", unfollowed := true, recurses := true, named := ["skewbald/plank.nowhere", "skewbald/plank.hits"], plainKeys := false, apart := false, laid := [("skewbald/plank.hits", laid_skewbald_plank_hits), ("skewbald/plank.nowhere", laid_skewbald_plank_nowhere)], narrowed := true }
def PlankMostUptoSaid : Prop := plankMostUptoRow.holds Tryd.pinned (OpenSpec.upto plankMostSpec)

/-- 'skewbaldlaw01.PlankLacks', WHERE WHAT IT READS IS OF BULK AT MOST 1048576: true; the input reads as it did. -/
def plankLacksUptoRow : OpenClaim := { program := "ytekjlpldooihhaadoor", sum := "91c1f460dc66b6877975be81493285a49910481e961b2445695f369737f62b13", func := "skewbald/skewbaldlaw01.PlankLacks", spec := "plankLacks", unfollowed := true, recurses := true, named := ["skewbald/plank.nowhere", "skewbald/plank.hits"], plainKeys := false, apart := false, laid := [("skewbald/plank.hits", laid_skewbald_plank_hits), ("skewbald/plank.nowhere", laid_skewbald_plank_nowhere)], narrowed := true }
def PlankLacksUptoSaid : Prop := plankLacksUptoRow.holds Tryd.pinned (OpenSpec.upto plankLacksSpec)

/-- 'skewbaldlaw01.PlankLook', WHERE WHAT IT READS IS OF BULK AT MOST 1048576: true; the input reads as it did. -/
def plankLookUptoRow : OpenClaim := { program := "ytekjlpldooihhaadoor", sum := "91c1f460dc66b6877975be81493285a49910481e961b2445695f369737f62b13", func := "skewbald/skewbaldlaw01.PlankLook", spec := "plankLook", unfollowed := true, recurses := true, named := ["skewbald/plank.nowhere", "skewbald/plank.hits"], plainKeys := false, apart := false, laid := [("skewbald/plank.hits", laid_skewbald_plank_hits), ("skewbald/plank.nowhere", laid_skewbald_plank_nowhere)], narrowed := true }
def PlankLookUptoSaid : Prop := plankLookUptoRow.holds Tryd.pinned (OpenSpec.upto plankLookSpec)

/-- 'skewbaldlaw01.PlankKnows', WHERE WHAT IT READS IS OF BULK AT MOST 1048576: true; the input reads as it did. -/
def plankKnowsUptoRow : OpenClaim := { program := "ytekjlpldooihhaadoor", sum := "91c1f460dc66b6877975be81493285a49910481e961b2445695f369737f62b13", func := "skewbald/skewbaldlaw01.PlankKnows", spec := "plankKnows", unfollowed := true, recurses := true, named := ["skewbald/plank.nowhere", "skewbald/plank.hits"], plainKeys := false, apart := false, laid := [("skewbald/plank.hits", laid_skewbald_plank_hits), ("skewbald/plank.nowhere", laid_skewbald_plank_nowhere)], narrowed := true }
def PlankKnowsUptoSaid : Prop := plankKnowsUptoRow.holds Tryd.pinned (OpenSpec.upto plankKnowsSpec)

/-- 'skewbaldlaw01.PlankTurn', WHERE WHAT IT READS IS OF BULK AT MOST 1048576: true; the input reads as it did. -/
def plankTurnUptoRow : OpenClaim := { program := "ytekjlpldooihhaadoor", sum := "91c1f460dc66b6877975be81493285a49910481e961b2445695f369737f62b13", func := "skewbald/skewbaldlaw01.PlankTurn", spec := "plankTurn", unfollowed := true, recurses := true, named := ["skewbald/plank.nowhere", "skewbald/plank.hits"], plainKeys := false, apart := false, laid := [("skewbald/plank.hits", laid_skewbald_plank_hits), ("skewbald/plank.nowhere", laid_skewbald_plank_nowhere)], narrowed := true }
def PlankTurnUptoSaid : Prop := plankTurnUptoRow.holds Tryd.pinned (OpenSpec.upto plankTurnSpec)

/-- 'skewbaldlaw01.PlankKnown', WHERE WHAT IT READS IS OF BULK AT MOST 1048576: true; the input reads as it did. -/
def plankKnownUptoRow : OpenClaim := { program := "ytekjlpldooihhaadoor", sum := "91c1f460dc66b6877975be81493285a49910481e961b2445695f369737f62b13", func := "skewbald/skewbaldlaw01.PlankKnown", spec := "plankKnown", unfollowed := true, recurses := true, named := ["skewbald/plank.nowhere", "skewbald/plank.hits"], plainKeys := false, apart := false, laid := [("skewbald/plank.hits", laid_skewbald_plank_hits), ("skewbald/plank.nowhere", laid_skewbald_plank_nowhere)], narrowed := true }
def PlankKnownUptoSaid : Prop := plankKnownUptoRow.holds Tryd.pinned (OpenSpec.upto plankKnownSpec)

end Rows
end Go.Proofs.YtekjlpldooihhaaDoor
