/-
  No cell of these rows narrows 'for every input' (looked for: loops, veiled, ifaces, maps, wideKeys, modest, calm, conditions, laid).
  DERIVED. THE GIVEN ROWS OF THIS SEAT. 9 by the template 'for every input the law returns true; each argument reads behind the call as it read before'; 0 by the template 'total and deterministic' (their statements: YthmmmbphknoagaaTotals.lean).
  GIVEN WITH THE SEED: the statements are not yours to turn. If you find one false, say at which input.
  Laid BY PROGRAM, IN A SANDBOX (cutbox-rows.mjs): the forced cells as the released guide's own fill.sh prints them over the translation 7f02c85cc57f0963… (all of the seat's roots in one cut). By AI agents, Wed Nov 11 2026. No macro, syntax, notation, axiom, sorry.
-/
import Derived.Test.YthmmmbphknoagaaChecked
import GoSem.Claim
import GoSem.ClaimJoined
import GoSem.ClaimMapViews
import Derived.JoinedTies
import Derived.KernelRfl
namespace Go.Proofs.Ythmmmbphknoagaa
/- THE CELL 'sum', in the pinned program and in every row, IS THE sha256 OF THE DUMP (.gsa) THAT YthmmmbphknoagaaProg.lean LOADS. Nothing in Lean hashes anything: it is a label: what it is worth is what the hold of that sum in a sandbox is worth. -/
noncomputable def Try.pinned : Pinned := { name := "ythmmmbphknoagaa", sum := "7f02c85cc57f09638b7898c63ff1284e40215aaf732bff46fceacc5f8f3a6afd", checked := Try.checked }
namespace Rows
def none {H : Type} : Left H := { results := [], args := [] }

/-- 'hauberklaw16.TokenVisits': WHATEVER THE INPUT: true; the input reads as it did. -/
def tokenVisitsSpec : ChangeSpec := { name := "tokenVisits", fn := fun _ => fun
  | [d1, d2] => { results := [.lit (.bool true)], args := [d1, d2] }
  | _ => none }
def tokenVisitsRow : OpenClaim := { program := "ythmmmbphknoagaa", sum := "7f02c85cc57f09638b7898c63ff1284e40215aaf732bff46fceacc5f8f3a6afd", func := "hauberk/hauberklaw16.TokenVisits", spec := "tokenVisits", recurses := true, apart := false }
def TokenVisitsSaid : Prop := tokenVisitsRow.holds Try.pinned (OpenSpec.ofChange tokenVisitsSpec)

/-- ITS FALSE NEIGHBOUR: 'it returns false'. Refute it at one input. -/
def tokenVisitsWrong : ChangeSpec := { name := "tokenVisits", fn := fun _ => fun
  | [d1, d2] => { results := [.lit (.bool false)], args := [d1, d2] }
  | _ => none }
def TokenVisitsWrongFalsely : Prop := tokenVisitsRow.holds Try.pinned (OpenSpec.ofChange tokenVisitsWrong)

/-- 'hauberklaw16.TokenSafe': WHATEVER THE INPUT: true; the input reads as it did. -/
def tokenSafeSpec : ChangeSpec := { name := "tokenSafe", fn := fun _ => fun
  | [d1, d2] => { results := [.lit (.bool true)], args := [d1, d2] }
  | _ => none }
def tokenSafeRow : OpenClaim := { program := "ythmmmbphknoagaa", sum := "7f02c85cc57f09638b7898c63ff1284e40215aaf732bff46fceacc5f8f3a6afd", func := "hauberk/hauberklaw16.TokenSafe", spec := "tokenSafe", recurses := true, apart := false }
def TokenSafeSaid : Prop := tokenSafeRow.holds Try.pinned (OpenSpec.ofChange tokenSafeSpec)

/-- ITS FALSE NEIGHBOUR: 'it returns false'. Refute it at one input. -/
def tokenSafeWrong : ChangeSpec := { name := "tokenSafe", fn := fun _ => fun
  | [d1, d2] => { results := [.lit (.bool false)], args := [d1, d2] }
  | _ => none }
def TokenSafeWrongFalsely : Prop := tokenSafeRow.holds Try.pinned (OpenSpec.ofChange tokenSafeWrong)

/-- 'hauberklaw16.TokenSettles': WHATEVER THE INPUT: true; the input reads as it did. -/
def tokenSettlesSpec : ChangeSpec := { name := "tokenSettles", fn := fun _ => fun
  | [d1, d2] => { results := [.lit (.bool true)], args := [d1, d2] }
  | _ => none }
def tokenSettlesRow : OpenClaim := { program := "ythmmmbphknoagaa", sum := "7f02c85cc57f09638b7898c63ff1284e40215aaf732bff46fceacc5f8f3a6afd", func := "hauberk/hauberklaw16.TokenSettles", spec := "tokenSettles", recurses := true, apart := false }
def TokenSettlesSaid : Prop := tokenSettlesRow.holds Try.pinned (OpenSpec.ofChange tokenSettlesSpec)

/-- ITS FALSE NEIGHBOUR: 'it returns false'. Refute it at one input. -/
def tokenSettlesWrong : ChangeSpec := { name := "tokenSettles", fn := fun _ => fun
  | [d1, d2] => { results := [.lit (.bool false)], args := [d1, d2] }
  | _ => none }
def TokenSettlesWrongFalsely : Prop := tokenSettlesRow.holds Try.pinned (OpenSpec.ofChange tokenSettlesWrong)

/-- 'hauberklaw14.WindowPlays': WHATEVER THE INPUT: true; the input reads as it did. -/
def windowPlaysSpec : ChangeSpec := { name := "windowPlays", fn := fun _ => fun
  | [d] => { results := [.lit (.bool true)], args := [d] }
  | _ => none }
def windowPlaysRow : OpenClaim := { program := "ythmmmbphknoagaa", sum := "7f02c85cc57f09638b7898c63ff1284e40215aaf732bff46fceacc5f8f3a6afd", func := "hauberk/hauberklaw14.WindowPlays", spec := "windowPlays", unfollowed := true, recurses := true, apart := false }
def WindowPlaysSaid : Prop := windowPlaysRow.holds Try.pinned (OpenSpec.ofChange windowPlaysSpec)

/-- ITS FALSE NEIGHBOUR: 'it returns false'. Refute it at one input. -/
def windowPlaysWrong : ChangeSpec := { name := "windowPlays", fn := fun _ => fun
  | [d] => { results := [.lit (.bool false)], args := [d] }
  | _ => none }
def WindowPlaysWrongFalsely : Prop := windowPlaysRow.holds Try.pinned (OpenSpec.ofChange windowPlaysWrong)

/-- 'hauberklaw14.WindowOrder': WHATEVER THE INPUT: true; the input reads as it did. -/
def windowOrderSpec : ChangeSpec := { name := "windowOrder", fn := fun _ => fun
  | [d] => { results := [.lit (.bool true)], args := [d] }
  | _ => none }
def windowOrderRow : OpenClaim := { program := "ythmmmbphknoagaa", sum := "7f02c85cc57f09638b7898c63ff1284e40215aaf732bff46fceacc5f8f3a6afd", func := "hauberk/hauberklaw14.WindowOrder", spec := "windowOrder", unfollowed := true, recurses := true, apart := false }
def WindowOrderSaid : Prop := windowOrderRow.holds Try.pinned (OpenSpec.ofChange windowOrderSpec)

/-- ITS FALSE NEIGHBOUR: 'it returns false'. Refute it at one input. -/
def windowOrderWrong : ChangeSpec := { name := "windowOrder", fn := fun _ => fun
  | [d] => { results := [.lit (.bool false)], args := [d] }
  | _ => none }
def WindowOrderWrongFalsely : Prop := windowOrderRow.holds Try.pinned (OpenSpec.ofChange windowOrderWrong)

/-- 'hauberklaw14.WindowBooks': WHATEVER THE INPUT: true; the input reads as it did. -/
def windowBooksSpec : ChangeSpec := { name := "windowBooks", fn := fun _ => fun
  | [d] => { results := [.lit (.bool true)], args := [d] }
  | _ => none }
def windowBooksRow : OpenClaim := { program := "ythmmmbphknoagaa", sum := "7f02c85cc57f09638b7898c63ff1284e40215aaf732bff46fceacc5f8f3a6afd", func := "hauberk/hauberklaw14.WindowBooks", spec := "windowBooks", unfollowed := true, recurses := true, apart := false }
def WindowBooksSaid : Prop := windowBooksRow.holds Try.pinned (OpenSpec.ofChange windowBooksSpec)

/-- ITS FALSE NEIGHBOUR: 'it returns false'. Refute it at one input. -/
def windowBooksWrong : ChangeSpec := { name := "windowBooks", fn := fun _ => fun
  | [d] => { results := [.lit (.bool false)], args := [d] }
  | _ => none }
def WindowBooksWrongFalsely : Prop := windowBooksRow.holds Try.pinned (OpenSpec.ofChange windowBooksWrong)

/-- 'hauberklaw14.WindowNames': WHATEVER THE INPUT: true; the input reads as it did. -/
def windowNamesSpec : ChangeSpec := { name := "windowNames", fn := fun _ => fun
  | [] => { results := [.lit (.bool true)], args := [] }
  | _ => none }
def windowNamesRow : OpenClaim := { program := "ythmmmbphknoagaa", sum := "7f02c85cc57f09638b7898c63ff1284e40215aaf732bff46fceacc5f8f3a6afd", func := "hauberk/hauberklaw14.WindowNames", spec := "windowNames", unfollowed := true, recurses := true, apart := false }
def WindowNamesSaid : Prop := windowNamesRow.holds Try.pinned (OpenSpec.ofChange windowNamesSpec)

/-- ITS FALSE NEIGHBOUR: 'it returns false'. Refute it at one input. -/
def windowNamesWrong : ChangeSpec := { name := "windowNames", fn := fun _ => fun
  | [] => { results := [.lit (.bool false)], args := [] }
  | _ => none }
def WindowNamesWrongFalsely : Prop := windowNamesRow.holds Try.pinned (OpenSpec.ofChange windowNamesWrong)

/-- 'hauberklaw16.TokenAsks': WHATEVER THE INPUT: true; the input reads as it did. -/
def tokenAsksSpec : ChangeSpec := { name := "tokenAsks", fn := fun _ => fun
  | [d1, d2, d3] => { results := [.lit (.bool true)], args := [d1, d2, d3] }
  | _ => none }
def tokenAsksRow : OpenClaim := { program := "ythmmmbphknoagaa", sum := "7f02c85cc57f09638b7898c63ff1284e40215aaf732bff46fceacc5f8f3a6afd", func := "hauberk/hauberklaw16.TokenAsks", spec := "tokenAsks", unfollowed := true, recurses := true, apart := false }
def TokenAsksSaid : Prop := tokenAsksRow.holds Try.pinned (OpenSpec.ofChange tokenAsksSpec)

/-- ITS FALSE NEIGHBOUR: 'it returns false'. Refute it at one input. -/
def tokenAsksWrong : ChangeSpec := { name := "tokenAsks", fn := fun _ => fun
  | [d1, d2, d3] => { results := [.lit (.bool false)], args := [d1, d2, d3] }
  | _ => none }
def TokenAsksWrongFalsely : Prop := tokenAsksRow.holds Try.pinned (OpenSpec.ofChange tokenAsksWrong)

/-- 'hauberklaw16.TokenNames': WHATEVER THE INPUT: true; the input reads as it did. -/
def tokenNamesSpec : ChangeSpec := { name := "tokenNames", fn := fun _ => fun
  | [] => { results := [.lit (.bool true)], args := [] }
  | _ => none }
def tokenNamesRow : OpenClaim := { program := "ythmmmbphknoagaa", sum := "7f02c85cc57f09638b7898c63ff1284e40215aaf732bff46fceacc5f8f3a6afd", func := "hauberk/hauberklaw16.TokenNames", spec := "tokenNames", unfollowed := true, recurses := true, apart := false }
def TokenNamesSaid : Prop := tokenNamesRow.holds Try.pinned (OpenSpec.ofChange tokenNamesSpec)

/-- ITS FALSE NEIGHBOUR: 'it returns false'. Refute it at one input. -/
def tokenNamesWrong : ChangeSpec := { name := "tokenNames", fn := fun _ => fun
  | [] => { results := [.lit (.bool false)], args := [] }
  | _ => none }
def TokenNamesWrongFalsely : Prop := tokenNamesRow.holds Try.pinned (OpenSpec.ofChange tokenNamesWrong)

/- THE SECOND FORM. 'bulk': how many values and letters a reading holds, each counted each time it is reached (what is shared counts as often as it is met; a slice's spare places count too). A statement '..UptoSaid' is the law's where the arguments, and the package variables that the reading takes, are together of bulk at most 1048576: NARROWER than '..Said'. Prove '..Said' where nothing that the law and all that it calls make is longer than what came in: it says more and counts as full. Else prove '..UptoSaid'. A law counts once. -/
mutual
def uptoBulk {H : Type} : DataW H → Nat
  | .lit (.string bytes) => bytes.length + 1
  | .lit _ => 1
  | .nil => 1
  | .ptr d => uptoBulk d + 1
  | .slice elems spare => uptoBulkAll elems + uptoBulkAll spare + 1
  | .agg parts => uptoBulkAll parts + 1
  | .iface _ d => uptoBulk d + 1
  | .map entries => uptoBulkEntries entries + 1
  | .held _ => 1
def uptoBulkAll {H : Type} : List (DataW H) → Nat
  | [] => 0
  | d :: r => uptoBulk d + uptoBulkAll r
def uptoBulkEntries {H : Type} : List (Lit × DataW H) → Nat
  | [] => 0
  | x :: r => uptoBulkEntry x + uptoBulkEntries r
def uptoBulkEntry {H : Type} : Lit × DataW H → Nat
  | (.string bytes, d) => bytes.length + uptoBulk d + 1
  | (_, d) => uptoBulk d + 1
 end
def uptoSmall : (H : Type) → List (DataW H) → Bool := fun _ ds => decide (uptoBulkAll ds ≤ 1048576)
def OpenSpec.upto (s : _root_.Go.ChangeSpec) : _root_.Go.OpenSpec := { _root_.Go.OpenSpec.ofChange s with cond := some uptoSmall }

/-- 'hauberklaw16.TokenVisits', WHERE WHAT IT READS IS OF BULK AT MOST 1048576: true; the input reads as it did. -/
def tokenVisitsUptoRow : OpenClaim := { program := "ythmmmbphknoagaa", sum := "7f02c85cc57f09638b7898c63ff1284e40215aaf732bff46fceacc5f8f3a6afd", func := "hauberk/hauberklaw16.TokenVisits", spec := "tokenVisits", recurses := true, apart := false, narrowed := true }
def TokenVisitsUptoSaid : Prop := tokenVisitsUptoRow.holds Try.pinned (OpenSpec.upto tokenVisitsSpec)

/-- 'hauberklaw16.TokenSafe', WHERE WHAT IT READS IS OF BULK AT MOST 1048576: true; the input reads as it did. -/
def tokenSafeUptoRow : OpenClaim := { program := "ythmmmbphknoagaa", sum := "7f02c85cc57f09638b7898c63ff1284e40215aaf732bff46fceacc5f8f3a6afd", func := "hauberk/hauberklaw16.TokenSafe", spec := "tokenSafe", recurses := true, apart := false, narrowed := true }
def TokenSafeUptoSaid : Prop := tokenSafeUptoRow.holds Try.pinned (OpenSpec.upto tokenSafeSpec)

/-- 'hauberklaw16.TokenSettles', WHERE WHAT IT READS IS OF BULK AT MOST 1048576: true; the input reads as it did. -/
def tokenSettlesUptoRow : OpenClaim := { program := "ythmmmbphknoagaa", sum := "7f02c85cc57f09638b7898c63ff1284e40215aaf732bff46fceacc5f8f3a6afd", func := "hauberk/hauberklaw16.TokenSettles", spec := "tokenSettles", recurses := true, apart := false, narrowed := true }
def TokenSettlesUptoSaid : Prop := tokenSettlesUptoRow.holds Try.pinned (OpenSpec.upto tokenSettlesSpec)

/-- 'hauberklaw14.WindowPlays', WHERE WHAT IT READS IS OF BULK AT MOST 1048576: true; the input reads as it did. -/
def windowPlaysUptoRow : OpenClaim := { program := "ythmmmbphknoagaa", sum := "7f02c85cc57f09638b7898c63ff1284e40215aaf732bff46fceacc5f8f3a6afd", func := "hauberk/hauberklaw14.WindowPlays", spec := "windowPlays", unfollowed := true, recurses := true, apart := false, narrowed := true }
def WindowPlaysUptoSaid : Prop := windowPlaysUptoRow.holds Try.pinned (OpenSpec.upto windowPlaysSpec)

/-- 'hauberklaw14.WindowOrder', WHERE WHAT IT READS IS OF BULK AT MOST 1048576: true; the input reads as it did. -/
def windowOrderUptoRow : OpenClaim := { program := "ythmmmbphknoagaa", sum := "7f02c85cc57f09638b7898c63ff1284e40215aaf732bff46fceacc5f8f3a6afd", func := "hauberk/hauberklaw14.WindowOrder", spec := "windowOrder", unfollowed := true, recurses := true, apart := false, narrowed := true }
def WindowOrderUptoSaid : Prop := windowOrderUptoRow.holds Try.pinned (OpenSpec.upto windowOrderSpec)

/-- 'hauberklaw14.WindowBooks', WHERE WHAT IT READS IS OF BULK AT MOST 1048576: true; the input reads as it did. -/
def windowBooksUptoRow : OpenClaim := { program := "ythmmmbphknoagaa", sum := "7f02c85cc57f09638b7898c63ff1284e40215aaf732bff46fceacc5f8f3a6afd", func := "hauberk/hauberklaw14.WindowBooks", spec := "windowBooks", unfollowed := true, recurses := true, apart := false, narrowed := true }
def WindowBooksUptoSaid : Prop := windowBooksUptoRow.holds Try.pinned (OpenSpec.upto windowBooksSpec)

/-- 'hauberklaw14.WindowNames', WHERE WHAT IT READS IS OF BULK AT MOST 1048576: true; the input reads as it did. -/
def windowNamesUptoRow : OpenClaim := { program := "ythmmmbphknoagaa", sum := "7f02c85cc57f09638b7898c63ff1284e40215aaf732bff46fceacc5f8f3a6afd", func := "hauberk/hauberklaw14.WindowNames", spec := "windowNames", unfollowed := true, recurses := true, apart := false, narrowed := true }
def WindowNamesUptoSaid : Prop := windowNamesUptoRow.holds Try.pinned (OpenSpec.upto windowNamesSpec)

/-- 'hauberklaw16.TokenAsks', WHERE WHAT IT READS IS OF BULK AT MOST 1048576: true; the input reads as it did. -/
def tokenAsksUptoRow : OpenClaim := { program := "ythmmmbphknoagaa", sum := "7f02c85cc57f09638b7898c63ff1284e40215aaf732bff46fceacc5f8f3a6afd", func := "hauberk/hauberklaw16.TokenAsks", spec := "tokenAsks", unfollowed := true, recurses := true, apart := false, narrowed := true }
def TokenAsksUptoSaid : Prop := tokenAsksUptoRow.holds Try.pinned (OpenSpec.upto tokenAsksSpec)

/-- 'hauberklaw16.TokenNames', WHERE WHAT IT READS IS OF BULK AT MOST 1048576: true; the input reads as it did. -/
def tokenNamesUptoRow : OpenClaim := { program := "ythmmmbphknoagaa", sum := "7f02c85cc57f09638b7898c63ff1284e40215aaf732bff46fceacc5f8f3a6afd", func := "hauberk/hauberklaw16.TokenNames", spec := "tokenNames", unfollowed := true, recurses := true, apart := false, narrowed := true }
def TokenNamesUptoSaid : Prop := tokenNamesUptoRow.holds Try.pinned (OpenSpec.upto tokenNamesSpec)

end Rows
end Go.Proofs.Ythmmmbphknoagaa
