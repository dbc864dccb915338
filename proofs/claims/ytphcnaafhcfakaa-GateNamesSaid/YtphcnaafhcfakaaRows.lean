/-
  No cell of these rows narrows 'for every input' (looked for: loops, veiled, ifaces, maps, wideKeys, modest, calm, conditions, laid).
  DERIVED. THE GIVEN ROWS OF THIS SEAT. 9 by the template 'for every input the law returns true; each argument reads behind the call as it read before'; 0 by the template 'total and deterministic' (their statements: YtphcnaafhcfakaaTotals.lean).
  GIVEN WITH THE SEED: the statements are not yours to turn. If you find one false, say at which input.
  Laid BY PROGRAM, IN A SANDBOX (cutbox-rows.mjs): the forced cells as the released guide's own fill.sh prints them over the translation 43ba24bd219ddd65… (all of the seat's roots in one cut). By AI agents, Wed Nov 11 2026. No macro, syntax, notation, axiom, sorry.
-/
import Derived.Test.YtphcnaafhcfakaaChecked
import GoSem.Claim
import GoSem.ClaimJoined
import GoSem.ClaimMapViews
import Derived.JoinedTies
import Derived.KernelRfl
namespace Go.Proofs.Ytphcnaafhcfakaa
/- THE CELL 'sum', in the pinned program and in every row, IS THE sha256 OF THE DUMP (.gsa) THAT YtphcnaafhcfakaaProg.lean LOADS. Nothing in Lean hashes anything: it is a label: what it is worth is what the hold of that sum in a sandbox is worth. -/
noncomputable def Try.pinned : Pinned := { name := "ytphcnaafhcfakaa", sum := "43ba24bd219ddd6564c804d400ce8719e1582ee24747c71cc6b792963d11dd05", checked := Try.checked }
namespace Rows
def none {H : Type} : Left H := { results := [], args := [] }

/-- 'hauberklaw12.PieceSplits': WHATEVER THE INPUT: true; the input reads as it did. -/
def pieceSplitsSpec : ChangeSpec := { name := "pieceSplits", fn := fun _ => fun
  | [d1, d2] => { results := [.lit (.bool true)], args := [d1, d2] }
  | _ => none }
def pieceSplitsRow : OpenClaim := { program := "ytphcnaafhcfakaa", sum := "43ba24bd219ddd6564c804d400ce8719e1582ee24747c71cc6b792963d11dd05", func := "hauberk/hauberklaw12.PieceSplits", spec := "pieceSplits", unfollowed := true, recurses := true, plainKeys := false, apart := false }
def PieceSplitsSaid : Prop := pieceSplitsRow.holds Try.pinned (OpenSpec.ofChange pieceSplitsSpec)

/-- ITS FALSE NEIGHBOUR: 'it returns false'. Refute it at one input. -/
def pieceSplitsWrong : ChangeSpec := { name := "pieceSplits", fn := fun _ => fun
  | [d1, d2] => { results := [.lit (.bool false)], args := [d1, d2] }
  | _ => none }
def PieceSplitsWrongFalsely : Prop := pieceSplitsRow.holds Try.pinned (OpenSpec.ofChange pieceSplitsWrong)

/-- 'hauberklaw12.PiecePuts': WHATEVER THE INPUT: true; the input reads as it did. -/
def piecePutsSpec : ChangeSpec := { name := "piecePuts", fn := fun _ => fun
  | [d] => { results := [.lit (.bool true)], args := [d] }
  | _ => none }
def piecePutsRow : OpenClaim := { program := "ytphcnaafhcfakaa", sum := "43ba24bd219ddd6564c804d400ce8719e1582ee24747c71cc6b792963d11dd05", func := "hauberk/hauberklaw12.PiecePuts", spec := "piecePuts", unfollowed := true, recurses := true, plainKeys := false, apart := false }
def PiecePutsSaid : Prop := piecePutsRow.holds Try.pinned (OpenSpec.ofChange piecePutsSpec)

/-- ITS FALSE NEIGHBOUR: 'it returns false'. Refute it at one input. -/
def piecePutsWrong : ChangeSpec := { name := "piecePuts", fn := fun _ => fun
  | [d] => { results := [.lit (.bool false)], args := [d] }
  | _ => none }
def PiecePutsWrongFalsely : Prop := piecePutsRow.holds Try.pinned (OpenSpec.ofChange piecePutsWrong)

/-- 'hauberklaw12.PieceBack': WHATEVER THE INPUT: true; the input reads as it did. -/
def pieceBackSpec : ChangeSpec := { name := "pieceBack", fn := fun _ => fun
  | [d1, d2] => { results := [.lit (.bool true)], args := [d1, d2] }
  | _ => none }
def pieceBackRow : OpenClaim := { program := "ytphcnaafhcfakaa", sum := "43ba24bd219ddd6564c804d400ce8719e1582ee24747c71cc6b792963d11dd05", func := "hauberk/hauberklaw12.PieceBack", spec := "pieceBack", unfollowed := true, recurses := true, plainKeys := false, apart := false }
def PieceBackSaid : Prop := pieceBackRow.holds Try.pinned (OpenSpec.ofChange pieceBackSpec)

/-- ITS FALSE NEIGHBOUR: 'it returns false'. Refute it at one input. -/
def pieceBackWrong : ChangeSpec := { name := "pieceBack", fn := fun _ => fun
  | [d1, d2] => { results := [.lit (.bool false)], args := [d1, d2] }
  | _ => none }
def PieceBackWrongFalsely : Prop := pieceBackRow.holds Try.pinned (OpenSpec.ofChange pieceBackWrong)

/-- 'hauberklaw12.PieceApart': WHATEVER THE INPUT: true; the input reads as it did. -/
def pieceApartSpec : ChangeSpec := { name := "pieceApart", fn := fun _ => fun
  | [d1, d2] => { results := [.lit (.bool true)], args := [d1, d2] }
  | _ => none }
def pieceApartRow : OpenClaim := { program := "ytphcnaafhcfakaa", sum := "43ba24bd219ddd6564c804d400ce8719e1582ee24747c71cc6b792963d11dd05", func := "hauberk/hauberklaw12.PieceApart", spec := "pieceApart", unfollowed := true, recurses := true, plainKeys := false, apart := false }
def PieceApartSaid : Prop := pieceApartRow.holds Try.pinned (OpenSpec.ofChange pieceApartSpec)

/-- ITS FALSE NEIGHBOUR: 'it returns false'. Refute it at one input. -/
def pieceApartWrong : ChangeSpec := { name := "pieceApart", fn := fun _ => fun
  | [d1, d2] => { results := [.lit (.bool false)], args := [d1, d2] }
  | _ => none }
def PieceApartWrongFalsely : Prop := pieceApartRow.holds Try.pinned (OpenSpec.ofChange pieceApartWrong)

/-- 'hauberklaw12.PieceKnown': WHATEVER THE INPUT: true; the input reads as it did. -/
def pieceKnownSpec : ChangeSpec := { name := "pieceKnown", fn := fun _ => fun
  | [] => { results := [.lit (.bool true)], args := [] }
  | _ => none }
def pieceKnownRow : OpenClaim := { program := "ytphcnaafhcfakaa", sum := "43ba24bd219ddd6564c804d400ce8719e1582ee24747c71cc6b792963d11dd05", func := "hauberk/hauberklaw12.PieceKnown", spec := "pieceKnown", unfollowed := true, recurses := true, plainKeys := false, apart := false }
def PieceKnownSaid : Prop := pieceKnownRow.holds Try.pinned (OpenSpec.ofChange pieceKnownSpec)

/-- ITS FALSE NEIGHBOUR: 'it returns false'. Refute it at one input. -/
def pieceKnownWrong : ChangeSpec := { name := "pieceKnown", fn := fun _ => fun
  | [] => { results := [.lit (.bool false)], args := [] }
  | _ => none }
def PieceKnownWrongFalsely : Prop := pieceKnownRow.holds Try.pinned (OpenSpec.ofChange pieceKnownWrong)

/-- 'hauberklaw26.GateWants': WHATEVER THE INPUT: true; the input reads as it did. -/
def gateWantsSpec : ChangeSpec := { name := "gateWants", fn := fun _ => fun
  | [d1, d2, d3] => { results := [.lit (.bool true)], args := [d1, d2, d3] }
  | _ => none }
def gateWantsRow : OpenClaim := { program := "ytphcnaafhcfakaa", sum := "43ba24bd219ddd6564c804d400ce8719e1582ee24747c71cc6b792963d11dd05", func := "hauberk/hauberklaw26.GateWants", spec := "gateWants", unfollowed := true, recurses := true, plainKeys := false, apart := false }
def GateWantsSaid : Prop := gateWantsRow.holds Try.pinned (OpenSpec.ofChange gateWantsSpec)

/-- ITS FALSE NEIGHBOUR: 'it returns false'. Refute it at one input. -/
def gateWantsWrong : ChangeSpec := { name := "gateWants", fn := fun _ => fun
  | [d1, d2, d3] => { results := [.lit (.bool false)], args := [d1, d2, d3] }
  | _ => none }
def GateWantsWrongFalsely : Prop := gateWantsRow.holds Try.pinned (OpenSpec.ofChange gateWantsWrong)

/-- 'hauberklaw26.GatePlays': WHATEVER THE INPUT: true; the input reads as it did. -/
def gatePlaysSpec : ChangeSpec := { name := "gatePlays", fn := fun _ => fun
  | [d1, d2] => { results := [.lit (.bool true)], args := [d1, d2] }
  | _ => none }
def gatePlaysRow : OpenClaim := { program := "ytphcnaafhcfakaa", sum := "43ba24bd219ddd6564c804d400ce8719e1582ee24747c71cc6b792963d11dd05", func := "hauberk/hauberklaw26.GatePlays", spec := "gatePlays", unfollowed := true, recurses := true, plainKeys := false, apart := false }
def GatePlaysSaid : Prop := gatePlaysRow.holds Try.pinned (OpenSpec.ofChange gatePlaysSpec)

/-- ITS FALSE NEIGHBOUR: 'it returns false'. Refute it at one input. -/
def gatePlaysWrong : ChangeSpec := { name := "gatePlays", fn := fun _ => fun
  | [d1, d2] => { results := [.lit (.bool false)], args := [d1, d2] }
  | _ => none }
def GatePlaysWrongFalsely : Prop := gatePlaysRow.holds Try.pinned (OpenSpec.ofChange gatePlaysWrong)

/-- 'hauberklaw26.GateRises': WHATEVER THE INPUT: true; the input reads as it did. -/
def gateRisesSpec : ChangeSpec := { name := "gateRises", fn := fun _ => fun
  | [d1, d2] => { results := [.lit (.bool true)], args := [d1, d2] }
  | _ => none }
def gateRisesRow : OpenClaim := { program := "ytphcnaafhcfakaa", sum := "43ba24bd219ddd6564c804d400ce8719e1582ee24747c71cc6b792963d11dd05", func := "hauberk/hauberklaw26.GateRises", spec := "gateRises", unfollowed := true, recurses := true, plainKeys := false, apart := false }
def GateRisesSaid : Prop := gateRisesRow.holds Try.pinned (OpenSpec.ofChange gateRisesSpec)

/-- ITS FALSE NEIGHBOUR: 'it returns false'. Refute it at one input. -/
def gateRisesWrong : ChangeSpec := { name := "gateRises", fn := fun _ => fun
  | [d1, d2] => { results := [.lit (.bool false)], args := [d1, d2] }
  | _ => none }
def GateRisesWrongFalsely : Prop := gateRisesRow.holds Try.pinned (OpenSpec.ofChange gateRisesWrong)

/-- 'hauberklaw26.GateNames': WHATEVER THE INPUT: true; the input reads as it did. -/
def gateNamesSpec : ChangeSpec := { name := "gateNames", fn := fun _ => fun
  | [] => { results := [.lit (.bool true)], args := [] }
  | _ => none }
def gateNamesRow : OpenClaim := { program := "ytphcnaafhcfakaa", sum := "43ba24bd219ddd6564c804d400ce8719e1582ee24747c71cc6b792963d11dd05", func := "hauberk/hauberklaw26.GateNames", spec := "gateNames", unfollowed := true, recurses := true, plainKeys := false, apart := false }
def GateNamesSaid : Prop := gateNamesRow.holds Try.pinned (OpenSpec.ofChange gateNamesSpec)

/-- ITS FALSE NEIGHBOUR: 'it returns false'. Refute it at one input. -/
def gateNamesWrong : ChangeSpec := { name := "gateNames", fn := fun _ => fun
  | [] => { results := [.lit (.bool false)], args := [] }
  | _ => none }
def GateNamesWrongFalsely : Prop := gateNamesRow.holds Try.pinned (OpenSpec.ofChange gateNamesWrong)

/- THE SECOND FORM. 'bulk': how many values and letters a reading holds, each counted each time it is reached (what is shared counts as often as it is met; a slice's spare places count too). A statement '..UptoSaid' is the law's where the arguments, and the package variables that the reading takes, are together of bulk at most 1048576: NARROWER than '..Said'. Prove '..Said' where nothing that the law and all that it calls make is longer than what came in: it says more and counts as full. Else prove '..UptoSaid'. A law counts once. -/
mutual
def uptoBulk {H : Type} : DataW H → Nat
  | .lit (.string bytes) => bytes.length + 1
  | .lit _ => 1
  | .nil => 1
  | .ptr d => uptoBulk d + 1
  | .slice elems spare => uptoBulkAll elems + uptoBulkAll spare + 1
  | .agg parts => uptoBulkAll parts + 1
  | .iface _ d => uptoBulk d + 1
  | .map entries => uptoBulkEntries entries + 1
  | .held _ => 1
def uptoBulkAll {H : Type} : List (DataW H) → Nat
  | [] => 0
  | d :: r => uptoBulk d + uptoBulkAll r
def uptoBulkEntries {H : Type} : List (Lit × DataW H) → Nat
  | [] => 0
  | x :: r => uptoBulkEntry x + uptoBulkEntries r
def uptoBulkEntry {H : Type} : Lit × DataW H → Nat
  | (.string bytes, d) => bytes.length + uptoBulk d + 1
  | (_, d) => uptoBulk d + 1
 end
def uptoSmall : (H : Type) → List (DataW H) → Bool := fun _ ds => decide (uptoBulkAll ds ≤ 1048576)
def OpenSpec.upto (s : _root_.Go.ChangeSpec) : _root_.Go.OpenSpec := { _root_.Go.OpenSpec.ofChange s with cond := some uptoSmall }

/-- 'hauberklaw12.PieceSplits', WHERE WHAT IT READS IS OF BULK AT MOST 1048576: true; the input reads as it did. -/
def pieceSplitsUptoRow : OpenClaim := { program := "ytphcnaafhcfakaa", sum := "43ba24bd219ddd6564c804d400ce8719e1582ee24747c71cc6b792963d11dd05", func := "hauberk/hauberklaw12.PieceSplits", spec := "pieceSplits", unfollowed := true, recurses := true, plainKeys := false, apart := false, narrowed := true }
def PieceSplitsUptoSaid : Prop := pieceSplitsUptoRow.holds Try.pinned (OpenSpec.upto pieceSplitsSpec)

/-- 'hauberklaw12.PiecePuts', WHERE WHAT IT READS IS OF BULK AT MOST 1048576: true; the input reads as it did. -/
def piecePutsUptoRow : OpenClaim := { program := "ytphcnaafhcfakaa", sum := "43ba24bd219ddd6564c804d400ce8719e1582ee24747c71cc6b792963d11dd05", func := "hauberk/hauberklaw12.PiecePuts", spec := "piecePuts", unfollowed := true, recurses := true, plainKeys := false, apart := false, narrowed := true }
def PiecePutsUptoSaid : Prop := piecePutsUptoRow.holds Try.pinned (OpenSpec.upto piecePutsSpec)

/-- 'hauberklaw12.PieceBack', WHERE WHAT IT READS IS OF BULK AT MOST 1048576: true; the input reads as it did. -/
def pieceBackUptoRow : OpenClaim := { program := "ytphcnaafhcfakaa", sum := "43ba24bd219ddd6564c804d400ce8719e1582ee24747c71cc6b792963d11dd05", func := "hauberk/hauberklaw12.PieceBack", spec := "pieceBack", unfollowed := true, recurses := true, plainKeys := false, apart := false, narrowed := true }
def PieceBackUptoSaid : Prop := pieceBackUptoRow.holds Try.pinned (OpenSpec.upto pieceBackSpec)

/-- 'hauberklaw12.PieceApart', WHERE WHAT IT READS IS OF BULK AT MOST 1048576: true; the input reads as it did. -/
def pieceApartUptoRow : OpenClaim := { program := "ytphcnaafhcfakaa", sum := "43ba24bd219ddd6564c804d400ce8719e1582ee24747c71cc6b792963d11dd05", func := "hauberk/hauberklaw12.PieceApart", spec := "pieceApart", unfollowed := true, recurses := true, plainKeys := false, apart := false, narrowed := true }
def PieceApartUptoSaid : Prop := pieceApartUptoRow.holds Try.pinned (OpenSpec.upto pieceApartSpec)

/-- 'hauberklaw12.PieceKnown', WHERE WHAT IT READS IS OF BULK AT MOST 1048576: true; the input reads as it did. -/
def pieceKnownUptoRow : OpenClaim := { program := "ytphcnaafhcfakaa", sum := "43ba24bd219ddd6564c804d400ce8719e1582ee24747c71cc6b792963d11dd05", func := "hauberk/hauberklaw12.PieceKnown", spec := "pieceKnown", unfollowed := true, recurses := true, plainKeys := false, apart := false, narrowed := true }
def PieceKnownUptoSaid : Prop := pieceKnownUptoRow.holds Try.pinned (OpenSpec.upto pieceKnownSpec)

/-- 'hauberklaw26.GateWants', WHERE WHAT IT READS IS OF BULK AT MOST 1048576: true; the input reads as it did. -/
def gateWantsUptoRow : OpenClaim := { program := "ytphcnaafhcfakaa", sum := "43ba24bd219ddd6564c804d400ce8719e1582ee24747c71cc6b792963d11dd05", func := "hauberk/hauberklaw26.GateWants", spec := "gateWants", unfollowed := true, recurses := true, plainKeys := false, apart := false, narrowed := true }
def GateWantsUptoSaid : Prop := gateWantsUptoRow.holds Try.pinned (OpenSpec.upto gateWantsSpec)

/-- 'hauberklaw26.GatePlays', WHERE WHAT IT READS IS OF BULK AT MOST 1048576: true; the input reads as it did. -/
def gatePlaysUptoRow : OpenClaim := { program := "ytphcnaafhcfakaa", sum := "43ba24bd219ddd6564c804d400ce8719e1582ee24747c71cc6b792963d11dd05", func := "hauberk/hauberklaw26.GatePlays", spec := "gatePlays", unfollowed := true, recurses := true, plainKeys := false, apart := false, narrowed := true }
def GatePlaysUptoSaid : Prop := gatePlaysUptoRow.holds Try.pinned (OpenSpec.upto gatePlaysSpec)

/-- 'hauberklaw26.GateRises', WHERE WHAT IT READS IS OF BULK AT MOST 1048576: true; the input reads as it did. -/
def gateRisesUptoRow : OpenClaim := { program := "ytphcnaafhcfakaa", sum := "43ba24bd219ddd6564c804d400ce8719e1582ee24747c71cc6b792963d11dd05", func := "hauberk/hauberklaw26.GateRises", spec := "gateRises", unfollowed := true, recurses := true, plainKeys := false, apart := false, narrowed := true }
def GateRisesUptoSaid : Prop := gateRisesUptoRow.holds Try.pinned (OpenSpec.upto gateRisesSpec)

/-- 'hauberklaw26.GateNames', WHERE WHAT IT READS IS OF BULK AT MOST 1048576: true; the input reads as it did. -/
def gateNamesUptoRow : OpenClaim := { program := "ytphcnaafhcfakaa", sum := "43ba24bd219ddd6564c804d400ce8719e1582ee24747c71cc6b792963d11dd05", func := "hauberk/hauberklaw26.GateNames", spec := "gateNames", unfollowed := true, recurses := true, plainKeys := false, apart := false, narrowed := true }
def GateNamesUptoSaid : Prop := gateNamesUptoRow.holds Try.pinned (OpenSpec.upto gateNamesSpec)

end Rows
end Go.Proofs.Ytphcnaafhcfakaa
