/-
  No cell of these rows narrows 'for every input' (looked for: loops, veiled, ifaces, maps, wideKeys, modest, calm, conditions, laid).
  DERIVED. THE GIVEN ROWS OF THIS SEAT. 3 by the template 'for every input the law returns true; each argument reads behind the call as it read before'; 0 by the template 'total and deterministic' (their statements: YtkolmkdbjagfcaaGreatTotals.lean).
  GIVEN WITH THE SEED: the statements are not yours to turn. If you find one false, say at which input.
  Laid BY PROGRAM, IN A SANDBOX (cutbox-rows.mjs): the forced cells as the released guide's own fill.sh prints them over the translation f21124a0941bf60c… (all of the seat's roots in one cut). By AI agents, Wed Nov 11 2026. No macro, syntax, notation, axiom, sorry.
-/
import Derived.Test.YtkolmkdbjagfcaaGreatChecked
import GoSem.Claim
import GoSem.ClaimJoined
import GoSem.ClaimMapViews
import Derived.JoinedTies
import Derived.KernelRfl
namespace Go.Proofs.YtkolmkdbjagfcaaGreat
/- THE CELL 'sum', in the pinned program and in every row, IS THE sha256 OF THE DUMP (.gsa) THAT YtkolmkdbjagfcaaGreatProg.lean LOADS. Nothing in Lean hashes anything: it is a label: what it is worth is what the hold of that sum in a sandbox is worth. -/
noncomputable def Tryz.pinned : Pinned := { name := "ytkolmkdbjagfcaagreat", sum := "f21124a0941bf60c63e995cf331c993b1dd973968108c691fd91701f609ed4aa", checked := Tryz.checked }
namespace Rows
def none {H : Type} : Left H := { results := [], args := [] }

/-- 'hauberklaw06.PacketPacks': WHATEVER THE INPUT: true; the input reads as it did. -/
def packetPacksSpec : ChangeSpec := { name := "packetPacks", fn := fun _ => fun
  | [d] => { results := [.lit (.bool true)], args := [d] }
  | _ => none }
def packetPacksRow : OpenClaim := { program := "ytkolmkdbjagfcaagreat", sum := "f21124a0941bf60c63e995cf331c993b1dd973968108c691fd91701f609ed4aa", func := "hauberk/hauberklaw06.PacketPacks", spec := "packetPacks", unfollowed := true, recurses := true, apart := false }
def PacketPacksSaid : Prop := packetPacksRow.holds Tryz.pinned (OpenSpec.ofChange packetPacksSpec)

/-- ITS FALSE NEIGHBOUR: 'it returns false'. Refute it at one input. -/
def packetPacksWrong : ChangeSpec := { name := "packetPacks", fn := fun _ => fun
  | [d] => { results := [.lit (.bool false)], args := [d] }
  | _ => none }
def PacketPacksWrongFalsely : Prop := packetPacksRow.holds Tryz.pinned (OpenSpec.ofChange packetPacksWrong)

/-- 'hauberklaw06.PacketUnpacks': WHATEVER THE INPUT: true; the input reads as it did. -/
def packetUnpacksSpec : ChangeSpec := { name := "packetUnpacks", fn := fun _ => fun
  | [d] => { results := [.lit (.bool true)], args := [d] }
  | _ => none }
def packetUnpacksRow : OpenClaim := { program := "ytkolmkdbjagfcaagreat", sum := "f21124a0941bf60c63e995cf331c993b1dd973968108c691fd91701f609ed4aa", func := "hauberk/hauberklaw06.PacketUnpacks", spec := "packetUnpacks", unfollowed := true, recurses := true, apart := false }
def PacketUnpacksSaid : Prop := packetUnpacksRow.holds Tryz.pinned (OpenSpec.ofChange packetUnpacksSpec)

/-- ITS FALSE NEIGHBOUR: 'it returns false'. Refute it at one input. -/
def packetUnpacksWrong : ChangeSpec := { name := "packetUnpacks", fn := fun _ => fun
  | [d] => { results := [.lit (.bool false)], args := [d] }
  | _ => none }
def PacketUnpacksWrongFalsely : Prop := packetUnpacksRow.holds Tryz.pinned (OpenSpec.ofChange packetUnpacksWrong)

/-- 'hauberklaw06.PacketNames': WHATEVER THE INPUT: true; the input reads as it did. -/
def packetNamesSpec : ChangeSpec := { name := "packetNames", fn := fun _ => fun
  | [] => { results := [.lit (.bool true)], args := [] }
  | _ => none }
def packetNamesRow : OpenClaim := { program := "ytkolmkdbjagfcaagreat", sum := "f21124a0941bf60c63e995cf331c993b1dd973968108c691fd91701f609ed4aa", func := "hauberk/hauberklaw06.PacketNames", spec := "packetNames", unfollowed := true, recurses := true, apart := false }
def PacketNamesSaid : Prop := packetNamesRow.holds Tryz.pinned (OpenSpec.ofChange packetNamesSpec)

/-- ITS FALSE NEIGHBOUR: 'it returns false'. Refute it at one input. -/
def packetNamesWrong : ChangeSpec := { name := "packetNames", fn := fun _ => fun
  | [] => { results := [.lit (.bool false)], args := [] }
  | _ => none }
def PacketNamesWrongFalsely : Prop := packetNamesRow.holds Tryz.pinned (OpenSpec.ofChange packetNamesWrong)

/- THE SECOND FORM. 'bulk': how many values and letters a reading holds, each counted each time it is reached (what is shared counts as often as it is met; a slice's spare places count too). A statement '..UptoSaid' is the law's where the arguments, and the package variables that the reading takes, are together of bulk at most 1048576: NARROWER than '..Said'. Prove '..Said' where nothing that the law and all that it calls make is longer than what came in: it says more and counts as full. Else prove '..UptoSaid'. A law counts once. -/
mutual
def uptoBulk {H : Type} : DataW H → Nat
  | .lit (.string bytes) => bytes.length + 1
  | .lit _ => 1
  | .nil => 1
  | .ptr d => uptoBulk d + 1
  | .slice elems spare => uptoBulkAll elems + uptoBulkAll spare + 1
  | .agg parts => uptoBulkAll parts + 1
  | .iface _ d => uptoBulk d + 1
  | .map entries => uptoBulkEntries entries + 1
  | .held _ => 1
def uptoBulkAll {H : Type} : List (DataW H) → Nat
  | [] => 0
  | d :: r => uptoBulk d + uptoBulkAll r
def uptoBulkEntries {H : Type} : List (Lit × DataW H) → Nat
  | [] => 0
  | x :: r => uptoBulkEntry x + uptoBulkEntries r
def uptoBulkEntry {H : Type} : Lit × DataW H → Nat
  | (.string bytes, d) => bytes.length + uptoBulk d + 1
  | (_, d) => uptoBulk d + 1
 end
def uptoSmall : (H : Type) → List (DataW H) → Bool := fun _ ds => decide (uptoBulkAll ds ≤ 1048576)
def OpenSpec.upto (s : _root_.Go.ChangeSpec) : _root_.Go.OpenSpec := { _root_.Go.OpenSpec.ofChange s with cond := some uptoSmall }

/-- 'hauberklaw06.PacketPacks', WHERE WHAT IT READS IS OF BULK AT MOST 1048576: true; the input reads as it did. -/
def packetPacksUptoRow : OpenClaim := { program := "ytkolmkdbjagfcaagreat", sum := "f21124a0941bf60c63e995cf331c993b1dd973968108c691fd91701f609ed4aa", func := "hauberk/hauberklaw06.PacketPacks", spec := "packetPacks", unfollowed := true, recurses := true, apart := false, narrowed := true }
def PacketPacksUptoSaid : Prop := packetPacksUptoRow.holds Tryz.pinned (OpenSpec.upto packetPacksSpec)

/-- 'hauberklaw06.PacketUnpacks', WHERE WHAT IT READS IS OF BULK AT MOST 1048576: true; the input reads as it did. -/
def packetUnpacksUptoRow : OpenClaim := { program := "ytkolmkdbjagfcaagreat", sum := "f21124a0941bf60c63e995cf331c993b1dd973968108c691fd91701f609ed4aa", func := "hauberk/hauberklaw06.PacketUnpacks", spec := "packetUnpacks", unfollowed := true, recurses := true, apart := false, narrowed := true }
def PacketUnpacksUptoSaid : Prop := packetUnpacksUptoRow.holds Tryz.pinned (OpenSpec.upto packetUnpacksSpec)

/-- 'hauberklaw06.PacketNames', WHERE WHAT IT READS IS OF BULK AT MOST 1048576: true; the input reads as it did. -/
def packetNamesUptoRow : OpenClaim := { program := "ytkolmkdbjagfcaagreat", sum := "f21124a0941bf60c63e995cf331c993b1dd973968108c691fd91701f609ed4aa", func := "hauberk/hauberklaw06.PacketNames", spec := "packetNames", unfollowed := true, recurses := true, apart := false, narrowed := true }
def PacketNamesUptoSaid : Prop := packetNamesUptoRow.holds Tryz.pinned (OpenSpec.upto packetNamesSpec)

end Rows
end Go.Proofs.YtkolmkdbjagfcaaGreat
