/-
  No cell of these rows narrows 'for every input' (looked for: loops, veiled, ifaces, maps, wideKeys, modest, calm, conditions, laid).
  DERIVED. THE GIVEN ROWS OF THIS SEAT. 2 by the template 'for every input the law returns true; each argument reads behind the call as it read before'; 0 by the template 'total and deterministic' (their statements: YtgblmkpfkcibiaaGreatTotals.lean).
  GIVEN WITH THE SEED: the statements are not yours to turn. If you find one false, say at which input.
  Laid BY PROGRAM, IN A SANDBOX (cutbox-rows.mjs): the forced cells as the released guide's own fill.sh prints them over the translation 9b3c25e7b3554acf… (all of the seat's roots in one cut). By AI agents, Wed Nov 11 2026. No macro, syntax, notation, axiom, sorry.
-/
import Derived.Test.YtgblmkpfkcibiaaGreatChecked
import GoSem.Claim
import GoSem.ClaimJoined
import GoSem.ClaimMapViews
import Derived.JoinedTies
import Derived.KernelRfl
namespace Go.Proofs.YtgblmkpfkcibiaaGreat
/- THE CELL 'sum', in the pinned program and in every row, IS THE sha256 OF THE DUMP (.gsa) THAT YtgblmkpfkcibiaaGreatProg.lean LOADS. Nothing in Lean hashes anything: it is a label: what it is worth is what the hold of that sum in a sandbox is worth. -/
noncomputable def Tryz.pinned : Pinned := { name := "ytgblmkpfkcibiaagreat", sum := "9b3c25e7b3554acfe9f19fa48e5f804f56a6003ea22c484d81c579242d5585e4", checked := Tryz.checked }
namespace Rows
def none {H : Type} : Left H := { results := [], args := [] }

/-- 'hauberklaw20.RegainSends': WHATEVER THE INPUT: true; the input reads as it did. -/
def regainSendsSpec : ChangeSpec := { name := "regainSends", fn := fun _ => fun
  | [d1, d2] => { results := [.lit (.bool true)], args := [d1, d2] }
  | _ => none }
def regainSendsRow : OpenClaim := { program := "ytgblmkpfkcibiaagreat", sum := "9b3c25e7b3554acfe9f19fa48e5f804f56a6003ea22c484d81c579242d5585e4", func := "hauberk/hauberklaw20.RegainSends", spec := "regainSends", unfollowed := true, recurses := true, apart := false }
def RegainSendsSaid : Prop := regainSendsRow.holds Tryz.pinned (OpenSpec.ofChange regainSendsSpec)

/-- ITS FALSE NEIGHBOUR: 'it returns false'. Refute it at one input. -/
def regainSendsWrong : ChangeSpec := { name := "regainSends", fn := fun _ => fun
  | [d1, d2] => { results := [.lit (.bool false)], args := [d1, d2] }
  | _ => none }
def RegainSendsWrongFalsely : Prop := regainSendsRow.holds Tryz.pinned (OpenSpec.ofChange regainSendsWrong)

/-- 'hauberklaw20.RegainNames': WHATEVER THE INPUT: true; the input reads as it did. -/
def regainNamesSpec : ChangeSpec := { name := "regainNames", fn := fun _ => fun
  | [] => { results := [.lit (.bool true)], args := [] }
  | _ => none }
def regainNamesRow : OpenClaim := { program := "ytgblmkpfkcibiaagreat", sum := "9b3c25e7b3554acfe9f19fa48e5f804f56a6003ea22c484d81c579242d5585e4", func := "hauberk/hauberklaw20.RegainNames", spec := "regainNames", unfollowed := true, recurses := true, apart := false }
def RegainNamesSaid : Prop := regainNamesRow.holds Tryz.pinned (OpenSpec.ofChange regainNamesSpec)

/-- ITS FALSE NEIGHBOUR: 'it returns false'. Refute it at one input. -/
def regainNamesWrong : ChangeSpec := { name := "regainNames", fn := fun _ => fun
  | [] => { results := [.lit (.bool false)], args := [] }
  | _ => none }
def RegainNamesWrongFalsely : Prop := regainNamesRow.holds Tryz.pinned (OpenSpec.ofChange regainNamesWrong)

/- THE SECOND FORM. 'bulk': how many values and letters a reading holds, each counted each time it is reached (what is shared counts as often as it is met; a slice's spare places count too). A statement '..UptoSaid' is the law's where the arguments, and the package variables that the reading takes, are together of bulk at most 1048576: NARROWER than '..Said'. Prove '..Said' where nothing that the law and all that it calls make is longer than what came in: it says more and counts as full. Else prove '..UptoSaid'. A law counts once. -/
mutual
def uptoBulk {H : Type} : DataW H → Nat
  | .lit (.string bytes) => bytes.length + 1
  | .lit _ => 1
  | .nil => 1
  | .ptr d => uptoBulk d + 1
  | .slice elems spare => uptoBulkAll elems + uptoBulkAll spare + 1
  | .agg parts => uptoBulkAll parts + 1
  | .iface _ d => uptoBulk d + 1
  | .map entries => uptoBulkEntries entries + 1
  | .held _ => 1
def uptoBulkAll {H : Type} : List (DataW H) → Nat
  | [] => 0
  | d :: r => uptoBulk d + uptoBulkAll r
def uptoBulkEntries {H : Type} : List (Lit × DataW H) → Nat
  | [] => 0
  | x :: r => uptoBulkEntry x + uptoBulkEntries r
def uptoBulkEntry {H : Type} : Lit × DataW H → Nat
  | (.string bytes, d) => bytes.length + uptoBulk d + 1
  | (_, d) => uptoBulk d + 1
 end
def uptoSmall : (H : Type) → List (DataW H) → Bool := fun _ ds => decide (uptoBulkAll ds ≤ 1048576)
def OpenSpec.upto (s : _root_.Go.ChangeSpec) : _root_.Go.OpenSpec := { _root_.Go.OpenSpec.ofChange s with cond := some uptoSmall }

/-- 'hauberklaw20.RegainSends', WHERE WHAT IT READS IS OF BULK AT MOST 1048576: true; the input reads as it did. -/
def regainSendsUptoRow : OpenClaim := { program := "ytgblmkpfkcibiaagreat", sum := "9b3c25e7b3554acfe9f19fa48e5f804f56a6003ea22c484d81c579242d5585e4", func := "hauberk/hauberklaw20.RegainSends", spec := "regainSends", unfollowed := true, recurses := true, apart := false, narrowed := true }
def RegainSendsUptoSaid : Prop := regainSendsUptoRow.holds Tryz.pinned (OpenSpec.upto regainSendsSpec)

/-- 'hauberklaw20.RegainNames', WHERE WHAT IT READS IS OF BULK AT MOST 1048576: true; the input reads as it did. -/
def regainNamesUptoRow : OpenClaim := { program := "ytgblmkpfkcibiaagreat", sum := "9b3c25e7b3554acfe9f19fa48e5f804f56a6003ea22c484d81c579242d5585e4", func := "hauberk/hauberklaw20.RegainNames", spec := "regainNames", unfollowed := true, recurses := true, apart := false, narrowed := true }
def RegainNamesUptoSaid : Prop := regainNamesUptoRow.holds Tryz.pinned (OpenSpec.upto regainNamesSpec)

end Rows
end Go.Proofs.YtgblmkpfkcibiaaGreat
