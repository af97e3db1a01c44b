/-
  NARROWER THAN 'FOR EVERY INPUT', by the rows' own cells (each row's printed sentence says how): DappleTurns: laid · DappleRows: laid · DappleTrue: laid · DappleBack: laid · DappleKnowing: laid · DappleWhose: laid · DappleNew: laid · DappleDrop: laid · DappleLook: laid · DappleMore: laid · DappleRead: laid · DappleFirsts: laid · DappleClash: laid · DappleKnown: laid.
  DERIVED. THE GIVEN ROWS OF THIS SEAT. 14 by the template 'for every input the law returns true; each argument reads behind the call as it read before'; 0 by the template 'total and deterministic' (their statements: YtdllacjkacmghaaDoorTotals.lean).
  GIVEN WITH THE SEED: the statements are not yours to turn. If you find one false, say at which input.
  Laid BY PROGRAM, IN A SANDBOX (cutbox-rows.mjs): the forced cells as the released guide's own fill.sh prints them over the translation 2dbd758b34d6e3ee… (all of the seat's roots in one cut). By AI agents, Wed Nov 11 2026. No macro, syntax, notation, axiom, sorry.
-/
import Derived.Test.YtdllacjkacmghaaDoorChecked
import GoSem.Claim
import GoSem.ClaimJoined
import GoSem.ClaimMapViews
import Derived.JoinedTies
import Derived.KernelRfl
namespace Go.Proofs.YtdllacjkacmghaaDoor
/- THE CELL 'sum', in the pinned program and in every row, IS THE sha256 OF THE DUMP (.gsa) THAT YtdllacjkacmghaaDoorProg.lean LOADS. Nothing in Lean hashes anything: it is a label: what it is worth is what the hold of that sum in a sandbox is worth. -/
noncomputable def Tryd.pinned : Pinned := { name := "ytdllacjkacmghaadoor", sum := "2dbd758b34d6e3ee4f10ebd730ef485d2e14c8ba40d63218064dcefe0c0d98aa", checked := Tryd.checked }
namespace Rows
def none {H : Type} : Left H := { results := [], args := [] }

/- WHAT THE LISTED PACKAGE-LEVEL VARIABLES READ AS WHEN THE CALL BEGINS. Each datum BY PROGRAM (the guide's laid-datum.mjs) off the statement by which the dump's own 'gosem.cut.vars' lays the variable. In a bare row this is a premise. The card (YtdllacjkacmghaaDoorCards.lean) ties it to the program's text. -/
def laid_skewbald_dapple_alikes {H : Type} : DataW H := .iface "func table" (.agg [.iface "func" (.lit (.string [40, 115, 107, 101, 119, 98, 97, 108, 100, 47, 100, 97, 112, 112, 108, 101, 46, 115, 105, 122, 101, 41, 46, 99, 97, 110])), .iface "func" (.lit (.string [40, 115, 107, 101, 119, 98, 97, 108, 100, 47, 100, 97, 112, 112, 108, 101, 46, 115, 105, 122, 101, 41, 46, 115, 117, 114, 101]))])
def laid_skewbald_dapple_never {H : Type} : DataW H := .agg [.lit (.int .i64 (-1)), .lit (.int .i64 (-1)), .lit (.int .i64 (-1))]

/-- 'skewbaldlaw07.DappleTurns': WHATEVER THE INPUT: true; the input reads as it did. -/
def dappleTurnsSpec : ChangeSpec := { name := "dappleTurns", fn := fun _ => fun
  | [d1, d2] => { results := [.lit (.bool true)], args := [d1, d2] }
  | _ => none }
def dappleTurnsRow : OpenClaim := { program := "ytdllacjkacmghaadoor", sum := "2dbd758b34d6e3ee4f10ebd730ef485d2e14c8ba40d63218064dcefe0c0d98aa", func := "skewbald/skewbaldlaw07.DappleTurns", spec := "dappleTurns", unfollowed := true, recurses := true, named := ["skewbald/dapple.alikes", "skewbald/dapple.never"], plainKeys := false, apart := false, laid := [("skewbald/dapple.alikes", laid_skewbald_dapple_alikes), ("skewbald/dapple.never", laid_skewbald_dapple_never)] }
def DappleTurnsSaid : Prop := dappleTurnsRow.holds Tryd.pinned (OpenSpec.ofChange dappleTurnsSpec)

/-- ITS FALSE NEIGHBOUR: 'it returns false'. Refute it at one input. -/
def dappleTurnsWrong : ChangeSpec := { name := "dappleTurns", fn := fun _ => fun
  | [d1, d2] => { results := [.lit (.bool false)], args := [d1, d2] }
  | _ => none }
def DappleTurnsWrongFalsely : Prop := dappleTurnsRow.holds Tryd.pinned (OpenSpec.ofChange dappleTurnsWrong)

/-- 'skewbaldlaw07.DappleRows': WHATEVER THE INPUT: true; the input reads as it did. -/
def dappleRowsSpec : ChangeSpec := { name := "dappleRows", fn := fun _ => fun
  | [d1, d2] => { results := [.lit (.bool true)], args := [d1, d2] }
  | _ => none }
def dappleRowsRow : OpenClaim := { program := "ytdllacjkacmghaadoor", sum := "2dbd758b34d6e3ee4f10ebd730ef485d2e14c8ba40d63218064dcefe0c0d98aa", func := "skewbald/skewbaldlaw07.DappleRows", spec := "dappleRows", unfollowed := true, recurses := true, named := ["skewbald/dapple.never", "skewbald/dapple.alikes"], plainKeys := false, apart := false, laid := [("skewbald/dapple.alikes", laid_skewbald_dapple_alikes), ("skewbald/dapple.never", laid_skewbald_dapple_never)] }
def DappleRowsSaid : Prop := dappleRowsRow.holds Tryd.pinned (OpenSpec.ofChange dappleRowsSpec)

/-- ITS FALSE NEIGHBOUR: 'it returns false'. Refute it at one input. -/
def dappleRowsWrong : ChangeSpec := { name := "dappleRows", fn := fun _ => fun
  | [d1, d2] => { results := [.lit (.bool false)], args := [d1, d2] }
  | _ => none }
def DappleRowsWrongFalsely : Prop := dappleRowsRow.holds Tryd.pinned (OpenSpec.ofChange dappleRowsWrong)

/-- 'skewbaldlaw07.DappleTrue': WHATEVER THE INPUT: true; the input reads as it did. -/
def dappleTrueSpec : ChangeSpec := { name := "dappleTrue", fn := fun _ => fun
  | [d1, d2, d3] => { results := [.lit (.bool true)], args := [d1, d2, d3] }
  | _ => none }
def dappleTrueRow : OpenClaim := { program := "ytdllacjkacmghaadoor", sum := "2dbd758b34d6e3ee4f10ebd730ef485d2e14c8ba40d63218064dcefe0c0d98aa", func := "skewbald/skewbaldlaw07.DappleTrue", spec := "dappleTrue", unfollowed := true, recurses := true, named := ["skewbald/dapple.alikes", "skewbald/dapple.never"], plainKeys := false, apart := false, laid := [("skewbald/dapple.alikes", laid_skewbald_dapple_alikes), ("skewbald/dapple.never", laid_skewbald_dapple_never)] }
def DappleTrueSaid : Prop := dappleTrueRow.holds Tryd.pinned (OpenSpec.ofChange dappleTrueSpec)

/-- ITS FALSE NEIGHBOUR: 'it returns false'. Refute it at one input. -/
def dappleTrueWrong : ChangeSpec := { name := "dappleTrue", fn := fun _ => fun
  | [d1, d2, d3] => { results := [.lit (.bool false)], args := [d1, d2, d3] }
  | _ => none }
def DappleTrueWrongFalsely : Prop := dappleTrueRow.holds Tryd.pinned (OpenSpec.ofChange dappleTrueWrong)

/-- 'skewbaldlaw07.DappleBack': WHATEVER THE INPUT: true; the input reads as it did. -/
def dappleBackSpec : ChangeSpec := { name := "dappleBack", fn := fun _ => fun
  | [d1, d2] => { results := [.lit (.bool true)], args := [d1, d2] }
  | _ => none }
def dappleBackRow : OpenClaim := { program := "ytdllacjkacmghaadoor", sum := "2dbd758b34d6e3ee4f10ebd730ef485d2e14c8ba40d63218064dcefe0c0d98aa", func := "skewbald/skewbaldlaw07.DappleBack", spec := "dappleBack", unfollowed := true, recurses := true, named := ["skewbald/dapple.alikes", "skewbald/dapple.never"], plainKeys := false, apart := false, laid := [("skewbald/dapple.alikes", laid_skewbald_dapple_alikes), ("skewbald/dapple.never", laid_skewbald_dapple_never)] }
def DappleBackSaid : Prop := dappleBackRow.holds Tryd.pinned (OpenSpec.ofChange dappleBackSpec)

/-- ITS FALSE NEIGHBOUR: 'it returns false'. Refute it at one input. -/
def dappleBackWrong : ChangeSpec := { name := "dappleBack", fn := fun _ => fun
  | [d1, d2] => { results := [.lit (.bool false)], args := [d1, d2] }
  | _ => none }
def DappleBackWrongFalsely : Prop := dappleBackRow.holds Tryd.pinned (OpenSpec.ofChange dappleBackWrong)

/-- 'skewbaldlaw07.DappleKnowing': WHATEVER THE INPUT: true; the input reads as it did. -/
def dappleKnowingSpec : ChangeSpec := { name := "dappleKnowing", fn := fun _ => fun
  | [d1, d2] => { results := [.lit (.bool true)], args := [d1, d2] }
  | _ => none }
def dappleKnowingRow : OpenClaim := { program := "ytdllacjkacmghaadoor", sum := "2dbd758b34d6e3ee4f10ebd730ef485d2e14c8ba40d63218064dcefe0c0d98aa", func := "skewbald/skewbaldlaw07.DappleKnowing", spec := "dappleKnowing", unfollowed := true, recurses := true, named := ["skewbald/dapple.alikes", "skewbald/dapple.never"], plainKeys := false, apart := false, laid := [("skewbald/dapple.alikes", laid_skewbald_dapple_alikes), ("skewbald/dapple.never", laid_skewbald_dapple_never)] }
def DappleKnowingSaid : Prop := dappleKnowingRow.holds Tryd.pinned (OpenSpec.ofChange dappleKnowingSpec)

/-- ITS FALSE NEIGHBOUR: 'it returns false'. Refute it at one input. -/
def dappleKnowingWrong : ChangeSpec := { name := "dappleKnowing", fn := fun _ => fun
  | [d1, d2] => { results := [.lit (.bool false)], args := [d1, d2] }
  | _ => none }
def DappleKnowingWrongFalsely : Prop := dappleKnowingRow.holds Tryd.pinned (OpenSpec.ofChange dappleKnowingWrong)

/-- 'skewbaldlaw07.DappleWhose': WHATEVER THE INPUT: true; the input reads as it did. -/
def dappleWhoseSpec : ChangeSpec := { name := "dappleWhose", fn := fun _ => fun
  | [d1, d2, d3] => { results := [.lit (.bool true)], args := [d1, d2, d3] }
  | _ => none }
def dappleWhoseRow : OpenClaim := { program := "ytdllacjkacmghaadoor", sum := "2dbd758b34d6e3ee4f10ebd730ef485d2e14c8ba40d63218064dcefe0c0d98aa", func := "skewbald/skewbaldlaw07.DappleWhose", spec := "dappleWhose", unfollowed := true, recurses := true, named := ["skewbald/dapple.alikes", "skewbald/dapple.never"], plainKeys := false, apart := false, laid := [("skewbald/dapple.alikes", laid_skewbald_dapple_alikes), ("skewbald/dapple.never", laid_skewbald_dapple_never)] }
def DappleWhoseSaid : Prop := dappleWhoseRow.holds Tryd.pinned (OpenSpec.ofChange dappleWhoseSpec)

/-- ITS FALSE NEIGHBOUR: 'it returns false'. Refute it at one input. -/
def dappleWhoseWrong : ChangeSpec := { name := "dappleWhose", fn := fun _ => fun
  | [d1, d2, d3] => { results := [.lit (.bool false)], args := [d1, d2, d3] }
  | _ => none }
def DappleWhoseWrongFalsely : Prop := dappleWhoseRow.holds Tryd.pinned (OpenSpec.ofChange dappleWhoseWrong)

/-- 'skewbaldlaw07.DappleNew': WHATEVER THE INPUT: true; the input reads as it did. -/
def dappleNewSpec : ChangeSpec := { name := "dappleNew", fn := fun _ => fun
  | [d1, d2] => { results := [.lit (.bool true)], args := [d1, d2] }
  | _ => none }
def dappleNewRow : OpenClaim := { program := "ytdllacjkacmghaadoor", sum := "2dbd758b34d6e3ee4f10ebd730ef485d2e14c8ba40d63218064dcefe0c0d98aa", func := "skewbald/skewbaldlaw07.DappleNew", spec := "dappleNew", unfollowed := true, recurses := true, named := ["skewbald/dapple.never", "skewbald/dapple.alikes"], plainKeys := false, apart := false, laid := [("skewbald/dapple.alikes", laid_skewbald_dapple_alikes), ("skewbald/dapple.never", laid_skewbald_dapple_never)] }
def DappleNewSaid : Prop := dappleNewRow.holds Tryd.pinned (OpenSpec.ofChange dappleNewSpec)

/-- ITS FALSE NEIGHBOUR: 'it returns false'. Refute it at one input. -/
def dappleNewWrong : ChangeSpec := { name := "dappleNew", fn := fun _ => fun
  | [d1, d2] => { results := [.lit (.bool false)], args := [d1, d2] }
  | _ => none }
def DappleNewWrongFalsely : Prop := dappleNewRow.holds Tryd.pinned (OpenSpec.ofChange dappleNewWrong)

/-- 'skewbaldlaw07.DappleDrop': WHATEVER THE INPUT: true; the input reads as it did. -/
def dappleDropSpec : ChangeSpec := { name := "dappleDrop", fn := fun _ => fun
  | [d1, d2] => { results := [.lit (.bool true)], args := [d1, d2] }
  | _ => none }
def dappleDropRow : OpenClaim := { program := "ytdllacjkacmghaadoor", sum := "2dbd758b34d6e3ee4f10ebd730ef485d2e14c8ba40d63218064dcefe0c0d98aa", func := "skewbald/skewbaldlaw07.DappleDrop", spec := "dappleDrop", unfollowed := true, recurses := true, named := ["skewbald/dapple.never", "skewbald/dapple.alikes"], plainKeys := false, apart := false, laid := [("skewbald/dapple.alikes", laid_skewbald_dapple_alikes), ("skewbald/dapple.never", laid_skewbald_dapple_never)] }
def DappleDropSaid : Prop := dappleDropRow.holds Tryd.pinned (OpenSpec.ofChange dappleDropSpec)

/-- ITS FALSE NEIGHBOUR: 'it returns false'. Refute it at one input. -/
def dappleDropWrong : ChangeSpec := { name := "dappleDrop", fn := fun _ => fun
  | [d1, d2] => { results := [.lit (.bool false)], args := [d1, d2] }
  | _ => none }
def DappleDropWrongFalsely : Prop := dappleDropRow.holds Tryd.pinned (OpenSpec.ofChange dappleDropWrong)

/-- 'skewbaldlaw07.DappleLook': WHATEVER THE INPUT: true; the input reads as it did. -/
def dappleLookSpec : ChangeSpec := { name := "dappleLook", fn := fun _ => fun
  | [d1, d2] => { results := [.lit (.bool true)], args := [d1, d2] }
  | _ => none }
def dappleLookRow : OpenClaim := { program := "ytdllacjkacmghaadoor", sum := "2dbd758b34d6e3ee4f10ebd730ef485d2e14c8ba40d63218064dcefe0c0d98aa", func := "skewbald/skewbaldlaw07.DappleLook", spec := "dappleLook", unfollowed := true, recurses := true, named := ["skewbald/dapple.never", "skewbald/dapple.alikes"], plainKeys := false, apart := false, laid := [("skewbald/dapple.alikes", laid_skewbald_dapple_alikes), ("skewbald/dapple.never", laid_skewbald_dapple_never)] }
def DappleLookSaid : Prop := dappleLookRow.holds Tryd.pinned (OpenSpec.ofChange dappleLookSpec)

/-- ITS FALSE NEIGHBOUR: 'it returns false'. Refute it at one input. -/
def dappleLookWrong : ChangeSpec := { name := "dappleLook", fn := fun _ => fun
  | [d1, d2] => { results := [.lit (.bool false)], args := [d1, d2] }
  | _ => none }
def DappleLookWrongFalsely : Prop := dappleLookRow.holds Tryd.pinned (OpenSpec.ofChange dappleLookWrong)

/-- 'skewbaldlaw07.DappleMore': WHATEVER THE INPUT: true; the input reads as it did. -/
def dappleMoreSpec : ChangeSpec := { name := "dappleMore", fn := fun _ => fun
  | [d1, d2, d3] => { results := [.lit (.bool true)], args := [d1, d2, d3] }
  | _ => none }
def dappleMoreRow : OpenClaim := { program := "ytdllacjkacmghaadoor", sum := "2dbd758b34d6e3ee4f10ebd730ef485d2e14c8ba40d63218064dcefe0c0d98aa", func := "skewbald/skewbaldlaw07.DappleMore", spec := "dappleMore", unfollowed := true, recurses := true, named := ["skewbald/dapple.alikes", "skewbald/dapple.never"], plainKeys := false, apart := false, laid := [("skewbald/dapple.alikes", laid_skewbald_dapple_alikes), ("skewbald/dapple.never", laid_skewbald_dapple_never)] }
def DappleMoreSaid : Prop := dappleMoreRow.holds Tryd.pinned (OpenSpec.ofChange dappleMoreSpec)

/-- ITS FALSE NEIGHBOUR: 'it returns false'. Refute it at one input. -/
def dappleMoreWrong : ChangeSpec := { name := "dappleMore", fn := fun _ => fun
  | [d1, d2, d3] => { results := [.lit (.bool false)], args := [d1, d2, d3] }
  | _ => none }
def DappleMoreWrongFalsely : Prop := dappleMoreRow.holds Tryd.pinned (OpenSpec.ofChange dappleMoreWrong)

/-- 'skewbaldlaw07.DappleRead': WHATEVER THE INPUT: true; the input reads as it did. -/
def dappleReadSpec : ChangeSpec := { name := "dappleRead", fn := fun _ => fun
  | [d1, d2, d3] => { results := [.lit (.bool true)], args := [d1, d2, d3] }
  | _ => none }
def dappleReadRow : OpenClaim := { program := "ytdllacjkacmghaadoor", sum := "2dbd758b34d6e3ee4f10ebd730ef485d2e14c8ba40d63218064dcefe0c0d98aa", func := "skewbald/skewbaldlaw07.DappleRead", spec := "dappleRead", unfollowed := true, recurses := true, named := ["skewbald/dapple.alikes", "skewbald/dapple.never"], plainKeys := false, apart := false, laid := [("skewbald/dapple.alikes", laid_skewbald_dapple_alikes), ("skewbald/dapple.never", laid_skewbald_dapple_never)] }
def DappleReadSaid : Prop := dappleReadRow.holds Tryd.pinned (OpenSpec.ofChange dappleReadSpec)

/-- ITS FALSE NEIGHBOUR: 'it returns false'. Refute it at one input. -/
def dappleReadWrong : ChangeSpec := { name := "dappleRead", fn := fun _ => fun
  | [d1, d2, d3] => { results := [.lit (.bool false)], args := [d1, d2, d3] }
  | _ => none }
def DappleReadWrongFalsely : Prop := dappleReadRow.holds Tryd.pinned (OpenSpec.ofChange dappleReadWrong)

/-- 'skewbaldlaw07.DappleFirsts': WHATEVER THE INPUT: true; the input reads as it did. -/
def dappleFirstsSpec : ChangeSpec := { name := "dappleFirsts", fn := fun _ => fun
  | [d] => { results := [.lit (.bool true)], args := [d] }
  | _ => none }
def dappleFirstsRow : OpenClaim := { program := "ytdllacjkacmghaadoor", sum := "2dbd758b34d6e3ee4f10ebd730ef485d2e14c8ba40d63218064dcefe0c0d98aa", func := "skewbald/skewbaldlaw07.DappleFirsts", spec := "dappleFirsts", unfollowed := true, recurses := true, named := ["skewbald/dapple.never", "skewbald/dapple.alikes"], plainKeys := false, apart := false, laid := [("skewbald/dapple.alikes", laid_skewbald_dapple_alikes), ("skewbald/dapple.never", laid_skewbald_dapple_never)] }
def DappleFirstsSaid : Prop := dappleFirstsRow.holds Tryd.pinned (OpenSpec.ofChange dappleFirstsSpec)

/-- ITS FALSE NEIGHBOUR: 'it returns false'. Refute it at one input. -/
def dappleFirstsWrong : ChangeSpec := { name := "dappleFirsts", fn := fun _ => fun
  | [d] => { results := [.lit (.bool false)], args := [d] }
  | _ => none }
def DappleFirstsWrongFalsely : Prop := dappleFirstsRow.holds Tryd.pinned (OpenSpec.ofChange dappleFirstsWrong)

/-- 'skewbaldlaw07.DappleClash': WHATEVER THE INPUT: true; the input reads as it did. -/
def dappleClashSpec : ChangeSpec := { name := "dappleClash", fn := fun _ => fun
  | [d1, d2] => { results := [.lit (.bool true)], args := [d1, d2] }
  | _ => none }
def dappleClashRow : OpenClaim := { program := "ytdllacjkacmghaadoor", sum := "2dbd758b34d6e3ee4f10ebd730ef485d2e14c8ba40d63218064dcefe0c0d98aa", func := "skewbald/skewbaldlaw07.DappleClash", spec := "dappleClash", unfollowed := true, recurses := true, named := ["skewbald/dapple.never", "skewbald/dapple.alikes"], plainKeys := false, apart := false, laid := [("skewbald/dapple.alikes", laid_skewbald_dapple_alikes), ("skewbald/dapple.never", laid_skewbald_dapple_never)] }
def DappleClashSaid : Prop := dappleClashRow.holds Tryd.pinned (OpenSpec.ofChange dappleClashSpec)

/-- ITS FALSE NEIGHBOUR: 'it returns false'. Refute it at one input. -/
def dappleClashWrong : ChangeSpec := { name := "dappleClash", fn := fun _ => fun
  | [d1, d2] => { results := [.lit (.bool false)], args := [d1, d2] }
  | _ => none }
def DappleClashWrongFalsely : Prop := dappleClashRow.holds Tryd.pinned (OpenSpec.ofChange dappleClashWrong)

/-- 'skewbaldlaw07.DappleKnown': WHATEVER THE INPUT: true; the input reads as it did. -/
def dappleKnownSpec : ChangeSpec := { name := "dappleKnown", fn := fun _ => fun
  | [] => { results := [.lit (.bool true)], args := [] }
  | _ => none }
def dappleKnownRow : OpenClaim := { program := "ytdllacjkacmghaadoor", sum := "2dbd758b34d6e3ee4f10ebd730ef485d2e14c8ba40d63218064dcefe0c0d98aa", func := "skewbald/skewbaldlaw07.DappleKnown", spec := "dappleKnown", unfollowed := true, recurses := true, named := ["skewbald/dapple.alikes", "skewbald/dapple.never"], plainKeys := false, apart := false, laid := [("skewbald/dapple.alikes", laid_skewbald_dapple_alikes), ("skewbald/dapple.never", laid_skewbald_dapple_never)] }
def DappleKnownSaid : Prop := dappleKnownRow.holds Tryd.pinned (OpenSpec.ofChange dappleKnownSpec)

/-- ITS FALSE NEIGHBOUR: 'it returns false'. Refute it at one input. -/
def dappleKnownWrong : ChangeSpec := { name := "dappleKnown", fn := fun _ => fun
  | [] => { results := [.lit (.bool false)], args := [] }
  | _ => none }
def DappleKnownWrongFalsely : Prop := dappleKnownRow.holds Tryd.pinned (OpenSpec.ofChange dappleKnownWrong)

/- THE SECOND FORM. 'bulk': how many values and letters a reading holds, each counted each time it is reached (what is shared counts as often as it is met; a slice's spare places count too). A statement '..UptoSaid' is the law's where the arguments, and the package variables that the reading takes, are together of bulk at most 1048576: NARROWER than '..Said'. Prove '..Said' where nothing that the law and all that it calls make is longer than what came in: it says more and counts as full. Else prove '..UptoSaid'. A law counts once. -/
mutual
def uptoBulk {H : Type} : DataW H → Nat
  | .lit (.string bytes) => bytes.length + 1
  | .lit _ => 1
  | .nil => 1
  | .ptr d => uptoBulk d + 1
  | .slice elems spare => uptoBulkAll elems + uptoBulkAll spare + 1
  | .agg parts => uptoBulkAll parts + 1
  | .iface _ d => uptoBulk d + 1
  | .map entries => uptoBulkEntries entries + 1
  | .held _ => 1
def uptoBulkAll {H : Type} : List (DataW H) → Nat
  | [] => 0
  | d :: r => uptoBulk d + uptoBulkAll r
def uptoBulkEntries {H : Type} : List (Lit × DataW H) → Nat
  | [] => 0
  | x :: r => uptoBulkEntry x + uptoBulkEntries r
def uptoBulkEntry {H : Type} : Lit × DataW H → Nat
  | (.string bytes, d) => bytes.length + uptoBulk d + 1
  | (_, d) => uptoBulk d + 1
 end
def uptoSmall : (H : Type) → List (DataW H) → Bool := fun _ ds => decide (uptoBulkAll ds ≤ 1048576)
def OpenSpec.upto (s : _root_.Go.ChangeSpec) : _root_.Go.OpenSpec := { _root_.Go.OpenSpec.ofChange s with cond := some uptoSmall }

/-- 'skewbaldlaw07.DappleTurns', WHERE WHAT IT READS IS OF BULK AT MOST 1048576: true; the input reads as it did. -/
def dappleTurnsUptoRow : OpenClaim := { program := "ytdllacjkacmghaadoor", sum := "2dbd758b34d6e3ee4f10ebd730ef485d2e14c8ba40d63218064dcefe0c0d98aa", func := "skewbald/skewbaldlaw07.DappleTurns", spec := "dappleTurns", unfollowed := true, recurses := true, named := ["skewbald/dapple.alikes", "skewbald/dapple.never"], plainKeys := false, apart := false, laid := [("skewbald/dapple.alikes", laid_skewbald_dapple_alikes), ("skewbald/dapple.never", laid_skewbald_dapple_never)], narrowed := true }
def DappleTurnsUptoSaid : Prop := dappleTurnsUptoRow.holds Tryd.pinned (OpenSpec.upto dappleTurnsSpec)

/-- 'skewbaldlaw07.DappleRows', WHERE WHAT IT READS IS OF BULK AT MOST 1048576: true; the input reads as it did. -/
def dappleRowsUptoRow : OpenClaim := { program := "ytdllacjkacmghaadoor", sum := "2dbd758b34d6e3ee4f10ebd730ef485d2e14c8ba40d63218064dcefe0c0d98aa", func := "skewbald/skewbaldlaw07.DappleRows", spec := "dappleRows", unfollowed := true, recurses := true, named := ["skewbald/dapple.never", "skewbald/dapple.alikes"], plainKeys := false, apart := false, laid := [("skewbald/dapple.alikes", laid_skewbald_dapple_alikes), ("skewbald/dapple.never", laid_skewbald_dapple_never)], narrowed := true }
def DappleRowsUptoSaid : Prop := dappleRowsUptoRow.holds Tryd.pinned (OpenSpec.upto dappleRowsSpec)

/-- 'skewbaldlaw07.DappleTrue', WHERE WHAT IT READS IS OF BULK AT MOST 1048576: true; the input reads as it did. -/
def dappleTrueUptoRow : OpenClaim := { program := "ytdllacjkacmghaadoor", sum := "2dbd758b34d6e3ee4f10ebd730ef485d2e14c8ba40d63218064dcefe0c0d98aa", func := "skewbald/skewbaldlaw07.DappleTrue", spec := "dappleTrue", unfollowed := true, recurses := true, named := ["skewbald/dapple.alikes", "skewbald/dapple.never"], plainKeys := false, apart := false, laid := [("skewbald/dapple.alikes", laid_skewbald_dapple_alikes), ("skewbald/dapple.never", laid_skewbald_dapple_never)], narrowed := true }
def DappleTrueUptoSaid : Prop := dappleTrueUptoRow.holds Tryd.pinned (OpenSpec.upto dappleTrueSpec)

/-- 'skewbaldlaw07.DappleBack', WHERE WHAT IT READS IS OF BULK AT MOST 1048576: true; the input reads as it did. -/
def dappleBackUptoRow : OpenClaim := { program := "ytdllacjkacmghaadoor", sum := "2dbd758b34d6e3ee4f10ebd730ef485d2e14c8ba40d63218064dcefe0c0d98aa", func := "skewbald/skewbaldlaw07.DappleBack", spec := "dappleBack", unfollowed := true, recurses := true, named := ["skewbald/dapple.alikes", "skewbald/dapple.never"], plainKeys := false, apart := false, laid := [("skewbald/dapple.alikes", laid_skewbald_dapple_alikes), ("skewbald/dapple.never", laid_skewbald_dapple_never)], narrowed := true }
def DappleBackUptoSaid : Prop := dappleBackUptoRow.holds Tryd.pinned (OpenSpec.upto dappleBackSpec)

/-- 'skewbaldlaw07.DappleKnowing', WHERE WHAT IT READS IS OF BULK AT MOST 1048576: true; the input reads as it did. -/
def dappleKnowingUptoRow : OpenClaim := { program := "ytdllacjkacmghaadoor", sum := "2dbd758b34d6e3ee4f10ebd730ef485d2e14c8ba40d63218064dcefe0c0d98aa", func := "skewbald/skewbaldlaw07.DappleKnowing", spec := "dappleKnowing", unfollowed := true, recurses := true, named := ["skewbald/dapple.alikes", "skewbald/dapple.never"], plainKeys := false, apart := false, laid := [("skewbald/dapple.alikes", laid_skewbald_dapple_alikes), ("skewbald/dapple.never", laid_skewbald_dapple_never)], narrowed := true }
def DappleKnowingUptoSaid : Prop := dappleKnowingUptoRow.holds Tryd.pinned (OpenSpec.upto dappleKnowingSpec)

/-- 'skewbaldlaw07.DappleWhose', WHERE WHAT IT READS IS OF BULK AT MOST 1048576: true; the input reads as it did. -/
def dappleWhoseUptoRow : OpenClaim := { program := "ytdllacjkacmghaadoor", sum := "2dbd758b34d6e3ee4f10ebd730ef485d2e14c8ba40d63218064dcefe0c0d98aa", func := "skewbald/skewbaldlaw07.DappleWhose", spec := "dappleWhose", unfollowed := true, recurses := true, named := ["skewbald/dapple.alikes", "skewbald/dapple.never"], plainKeys := false, apart := false, laid := [("skewbald/dapple.alikes", laid_skewbald_dapple_alikes), ("skewbald/dapple.never", laid_skewbald_dapple_never)], narrowed := true }
def DappleWhoseUptoSaid : Prop := dappleWhoseUptoRow.holds Tryd.pinned (OpenSpec.upto dappleWhoseSpec)

/-- 'skewbaldlaw07.DappleNew', WHERE WHAT IT READS IS OF BULK AT MOST 1048576: true; the input reads as it did. -/
def dappleNewUptoRow : OpenClaim := { program := "ytdllacjkacmghaadoor", sum := "2dbd758b34d6e3ee4f10ebd730ef485d2e14c8ba40d63218064dcefe0c0d98aa", func := "skewbald/skewbaldlaw07.DappleNew", spec := "dappleNew", unfollowed := true, recurses := true, named := ["skewbald/dapple.never", "skewbald/dapple.alikes"], plainKeys := false, apart := false, laid := [("skewbald/dapple.alikes", laid_skewbald_dapple_alikes), ("skewbald/dapple.never", laid_skewbald_dapple_never)], narrowed := true }
def DappleNewUptoSaid : Prop := dappleNewUptoRow.holds Tryd.pinned (OpenSpec.upto dappleNewSpec)

/-- 'skewbaldlaw07.DappleDrop', WHERE WHAT IT READS IS OF BULK AT MOST 1048576: true; the input reads as it did. -/
def dappleDropUptoRow : OpenClaim := { program := "ytdllacjkacmghaadoor", sum := "2dbd758b34d6e3ee4f10ebd730ef485d2e14c8ba40d63218064dcefe0c0d98aa", func := "skewbald/skewbaldlaw07.DappleDrop", spec := "dappleDrop", unfollowed := true, recurses := true, named := ["skewbald/dapple.never", "skewbald/dapple.alikes"], plainKeys := false, apart := false, laid := [("skewbald/dapple.alikes", laid_skewbald_dapple_alikes), ("skewbald/dapple.never", laid_skewbald_dapple_never)], narrowed := true }
def DappleDropUptoSaid : Prop := dappleDropUptoRow.holds Tryd.pinned (OpenSpec.upto dappleDropSpec)

/-- 'skewbaldlaw07.DappleLook', WHERE WHAT IT READS IS OF BULK AT MOST 1048576: true; the input reads as it did. -/
def dappleLookUptoRow : OpenClaim := { program := "ytdllacjkacmghaadoor", sum := "2dbd758b34d6e3ee4f10ebd730ef485d2e14c8ba40d63218064dcefe0c0d98aa", func := "skewbald/skewbaldlaw07.DappleLook", spec := "dappleLook", unfollowed := true, recurses := true, named := ["skewbald/dapple.never", "skewbald/dapple.alikes"], plainKeys := false, apart := false, laid := [("skewbald/dapple.alikes", laid_skewbald_dapple_alikes), ("skewbald/dapple.never", laid_skewbald_dapple_never)], narrowed := true }
def DappleLookUptoSaid : Prop := dappleLookUptoRow.holds Tryd.pinned (OpenSpec.upto dappleLookSpec)

/-- 'skewbaldlaw07.DappleMore', WHERE WHAT IT READS IS OF BULK AT MOST 1048576: true; the input reads as it did. -/
def dappleMoreUptoRow : OpenClaim := { program := "ytdllacjkacmghaadoor", sum := "2dbd758b34d6e3ee4f10ebd730ef485d2e14c8ba40d63218064dcefe0c0d98aa", func := "skewbald/skewbaldlaw07.DappleMore", spec := "dappleMore", unfollowed := true, recurses := true, named := ["skewbald/dapple.alikes", "skewbald/dapple.never"], plainKeys := false, apart := false, laid := [("skewbald/dapple.alikes", laid_skewbald_dapple_alikes), ("skewbald/dapple.never", laid_skewbald_dapple_never)], narrowed := true }
def DappleMoreUptoSaid : Prop := dappleMoreUptoRow.holds Tryd.pinned (OpenSpec.upto dappleMoreSpec)

/-- 'skewbaldlaw07.DappleRead', WHERE WHAT IT READS IS OF BULK AT MOST 1048576: true; the input reads as it did. -/
def dappleReadUptoRow : OpenClaim := { program := "ytdllacjkacmghaadoor", sum := "2dbd758b34d6e3ee4f10ebd730ef485d2e14c8ba40d63218064dcefe0c0d98aa", func := "skewbald/skewbaldlaw07.DappleRead", spec := "dappleRead", unfollowed := true, recurses := true, named := ["skewbald/dapple.alikes", "skewbald/dapple.never"], plainKeys := false, apart := false, laid := [("skewbald/dapple.alikes", laid_skewbald_dapple_alikes), ("skewbald/dapple.never", laid_skewbald_dapple_never)], narrowed := true }
def DappleReadUptoSaid : Prop := dappleReadUptoRow.holds Tryd.pinned (OpenSpec.upto dappleReadSpec)

/-- 'skewbaldlaw07.DappleFirsts', WHERE WHAT IT READS IS OF BULK AT MOST 1048576: true; the input reads as it did. -/
def dappleFirstsUptoRow : OpenClaim := { program := "ytdllacjkacmghaadoor", sum := "2dbd758b34d6e3ee4f10ebd730ef485d2e14c8ba40d63218064dcefe0c0d98aa", func := "skewbald/skewbaldlaw07.DappleFirsts", spec := "dappleFirsts", unfollowed := true, recurses := true, named := ["skewbald/dapple.never", "skewbald/dapple.alikes"], plainKeys := false, apart := false, laid := [("skewbald/dapple.alikes", laid_skewbald_dapple_alikes), ("skewbald/dapple.never", laid_skewbald_dapple_never)], narrowed := true }
def DappleFirstsUptoSaid : Prop := dappleFirstsUptoRow.holds Tryd.pinned (OpenSpec.upto dappleFirstsSpec)

/-- 'skewbaldlaw07.DappleClash', WHERE WHAT IT READS IS OF BULK AT MOST 1048576: true; the input reads as it did. -/
def dappleClashUptoRow : OpenClaim := { program := "ytdllacjkacmghaadoor", sum := "2dbd758b34d6e3ee4f10ebd730ef485d2e14c8ba40d63218064dcefe0c0d98aa", func := "skewbald/skewbaldlaw07.DappleClash", spec := "dappleClash", unfollowed := true, recurses := true, named := ["skewbald/dapple.never", "skewbald/dapple.alikes"], plainKeys := false, apart := false, laid := [("skewbald/dapple.alikes", laid_skewbald_dapple_alikes), ("skewbald/dapple.never", laid_skewbald_dapple_never)], narrowed := true }
def DappleClashUptoSaid : Prop := dappleClashUptoRow.holds Tryd.pinned (OpenSpec.upto dappleClashSpec)

/-- 'skewbaldlaw07.DappleKnown', WHERE WHAT IT READS IS OF BULK AT MOST 1048576: true; the input reads as it did. -/
def dappleKnownUptoRow : OpenClaim := { program := "ytdllacjkacmghaadoor", sum := "2dbd758b34d6e3ee4f10ebd730ef485d2e14c8ba40d63218064dcefe0c0d98aa", func := "skewbald/skewbaldlaw07.DappleKnown", spec := "dappleKnown", unfollowed := true, recurses := true, named := ["skewbald/dapple.alikes", "skewbald/dapple.never"], plainKeys := false, apart := false, laid := [("skewbald/dapple.alikes", laid_skewbald_dapple_alikes), ("skewbald/dapple.never", laid_skewbald_dapple_never)], narrowed := true }
def DappleKnownUptoSaid : Prop := dappleKnownUptoRow.holds Tryd.pinned (OpenSpec.upto dappleKnownSpec)

end Rows
end Go.Proofs.YtdllacjkacmghaaDoor
