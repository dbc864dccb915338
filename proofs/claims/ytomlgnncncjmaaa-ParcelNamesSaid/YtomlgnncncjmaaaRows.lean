/-
  No cell of these rows narrows 'for every input' (looked for: loops, veiled, ifaces, maps, wideKeys, modest, calm, conditions, laid).
  DERIVED. THE GIVEN ROWS OF THIS SEAT. 11 by the template 'for every input the law returns true; each argument reads behind the call as it read before'; 0 by the template 'total and deterministic' (their statements: YtomlgnncncjmaaaTotals.lean).
  GIVEN WITH THE SEED: the statements are not yours to turn. If you find one false, say at which input.
  Laid BY PROGRAM, IN A SANDBOX (cutbox-rows.mjs): the forced cells as the released guide's own fill.sh prints them over the translation d4c514f1f3a40442… (all of the seat's roots in one cut). By AI agents, Wed Nov 11 2026. No macro, syntax, notation, axiom, sorry.
-/
import Derived.Test.YtomlgnncncjmaaaChecked
import GoSem.Claim
import GoSem.ClaimJoined
import GoSem.ClaimMapViews
import Derived.JoinedTies
import Derived.KernelRfl
namespace Go.Proofs.Ytomlgnncncjmaaa
/- THE CELL 'sum', in the pinned program and in every row, IS THE sha256 OF THE DUMP (.gsa) THAT YtomlgnncncjmaaaProg.lean LOADS. Nothing in Lean hashes anything: it is a label: what it is worth is what the hold of that sum in a sandbox is worth. -/
noncomputable def Try.pinned : Pinned := { name := "ytomlgnncncjmaaa", sum := "d4c514f1f3a40442ca9bd23e3821008680355744521569de915f47e5d69e6392", checked := Try.checked }
namespace Rows
def none {H : Type} : Left H := { results := [], args := [] }

/-- 'hauberklaw05.ParcelPacks': WHATEVER THE INPUT: true; the input reads as it did. -/
def parcelPacksSpec : ChangeSpec := { name := "parcelPacks", fn := fun _ => fun
  | [d] => { results := [.lit (.bool true)], args := [d] }
  | _ => none }
def parcelPacksRow : OpenClaim := { program := "ytomlgnncncjmaaa", sum := "d4c514f1f3a40442ca9bd23e3821008680355744521569de915f47e5d69e6392", func := "hauberk/hauberklaw05.ParcelPacks", spec := "parcelPacks", unfollowed := true, recurses := true, apart := false }
def ParcelPacksSaid : Prop := parcelPacksRow.holds Try.pinned (OpenSpec.ofChange parcelPacksSpec)

/-- ITS FALSE NEIGHBOUR: 'it returns false'. Refute it at one input. -/
def parcelPacksWrong : ChangeSpec := { name := "parcelPacks", fn := fun _ => fun
  | [d] => { results := [.lit (.bool false)], args := [d] }
  | _ => none }
def ParcelPacksWrongFalsely : Prop := parcelPacksRow.holds Try.pinned (OpenSpec.ofChange parcelPacksWrong)

/-- 'hauberklaw05.ParcelUnpacks': WHATEVER THE INPUT: true; the input reads as it did. -/
def parcelUnpacksSpec : ChangeSpec := { name := "parcelUnpacks", fn := fun _ => fun
  | [d] => { results := [.lit (.bool true)], args := [d] }
  | _ => none }
def parcelUnpacksRow : OpenClaim := { program := "ytomlgnncncjmaaa", sum := "d4c514f1f3a40442ca9bd23e3821008680355744521569de915f47e5d69e6392", func := "hauberk/hauberklaw05.ParcelUnpacks", spec := "parcelUnpacks", unfollowed := true, recurses := true, apart := false }
def ParcelUnpacksSaid : Prop := parcelUnpacksRow.holds Try.pinned (OpenSpec.ofChange parcelUnpacksSpec)

/-- ITS FALSE NEIGHBOUR: 'it returns false'. Refute it at one input. -/
def parcelUnpacksWrong : ChangeSpec := { name := "parcelUnpacks", fn := fun _ => fun
  | [d] => { results := [.lit (.bool false)], args := [d] }
  | _ => none }
def ParcelUnpacksWrongFalsely : Prop := parcelUnpacksRow.holds Try.pinned (OpenSpec.ofChange parcelUnpacksWrong)

/-- 'hauberklaw05.ParcelCharts': WHATEVER THE INPUT: true; the input reads as it did. -/
def parcelChartsSpec : ChangeSpec := { name := "parcelCharts", fn := fun _ => fun
  | [d] => { results := [.lit (.bool true)], args := [d] }
  | _ => none }
def parcelChartsRow : OpenClaim := { program := "ytomlgnncncjmaaa", sum := "d4c514f1f3a40442ca9bd23e3821008680355744521569de915f47e5d69e6392", func := "hauberk/hauberklaw05.ParcelCharts", spec := "parcelCharts", unfollowed := true, recurses := true, apart := false }
def ParcelChartsSaid : Prop := parcelChartsRow.holds Try.pinned (OpenSpec.ofChange parcelChartsSpec)

/-- ITS FALSE NEIGHBOUR: 'it returns false'. Refute it at one input. -/
def parcelChartsWrong : ChangeSpec := { name := "parcelCharts", fn := fun _ => fun
  | [d] => { results := [.lit (.bool false)], args := [d] }
  | _ => none }
def ParcelChartsWrongFalsely : Prop := parcelChartsRow.holds Try.pinned (OpenSpec.ofChange parcelChartsWrong)

/-- 'hauberklaw05.ParcelBack': WHATEVER THE INPUT: true; the input reads as it did. -/
def parcelBackSpec : ChangeSpec := { name := "parcelBack", fn := fun _ => fun
  | [d] => { results := [.lit (.bool true)], args := [d] }
  | _ => none }
def parcelBackRow : OpenClaim := { program := "ytomlgnncncjmaaa", sum := "d4c514f1f3a40442ca9bd23e3821008680355744521569de915f47e5d69e6392", func := "hauberk/hauberklaw05.ParcelBack", spec := "parcelBack", unfollowed := true, recurses := true, apart := false }
def ParcelBackSaid : Prop := parcelBackRow.holds Try.pinned (OpenSpec.ofChange parcelBackSpec)

/-- ITS FALSE NEIGHBOUR: 'it returns false'. Refute it at one input. -/
def parcelBackWrong : ChangeSpec := { name := "parcelBack", fn := fun _ => fun
  | [d] => { results := [.lit (.bool false)], args := [d] }
  | _ => none }
def ParcelBackWrongFalsely : Prop := parcelBackRow.holds Try.pinned (OpenSpec.ofChange parcelBackWrong)

/-- 'hauberklaw05.ParcelOnce': WHATEVER THE INPUT: true; the input reads as it did. -/
def parcelOnceSpec : ChangeSpec := { name := "parcelOnce", fn := fun _ => fun
  | [d1, d2] => { results := [.lit (.bool true)], args := [d1, d2] }
  | _ => none }
def parcelOnceRow : OpenClaim := { program := "ytomlgnncncjmaaa", sum := "d4c514f1f3a40442ca9bd23e3821008680355744521569de915f47e5d69e6392", func := "hauberk/hauberklaw05.ParcelOnce", spec := "parcelOnce", unfollowed := true, recurses := true, apart := false }
def ParcelOnceSaid : Prop := parcelOnceRow.holds Try.pinned (OpenSpec.ofChange parcelOnceSpec)

/-- ITS FALSE NEIGHBOUR: 'it returns false'. Refute it at one input. -/
def parcelOnceWrong : ChangeSpec := { name := "parcelOnce", fn := fun _ => fun
  | [d1, d2] => { results := [.lit (.bool false)], args := [d1, d2] }
  | _ => none }
def ParcelOnceWrongFalsely : Prop := parcelOnceRow.holds Try.pinned (OpenSpec.ofChange parcelOnceWrong)

/-- 'hauberklaw05.ParcelAgain': WHATEVER THE INPUT: true; the input reads as it did. -/
def parcelAgainSpec : ChangeSpec := { name := "parcelAgain", fn := fun _ => fun
  | [d] => { results := [.lit (.bool true)], args := [d] }
  | _ => none }
def parcelAgainRow : OpenClaim := { program := "ytomlgnncncjmaaa", sum := "d4c514f1f3a40442ca9bd23e3821008680355744521569de915f47e5d69e6392", func := "hauberk/hauberklaw05.ParcelAgain", spec := "parcelAgain", unfollowed := true, recurses := true, apart := false }
def ParcelAgainSaid : Prop := parcelAgainRow.holds Try.pinned (OpenSpec.ofChange parcelAgainSpec)

/-- ITS FALSE NEIGHBOUR: 'it returns false'. Refute it at one input. -/
def parcelAgainWrong : ChangeSpec := { name := "parcelAgain", fn := fun _ => fun
  | [d] => { results := [.lit (.bool false)], args := [d] }
  | _ => none }
def ParcelAgainWrongFalsely : Prop := parcelAgainRow.holds Try.pinned (OpenSpec.ofChange parcelAgainWrong)

/-- 'hauberklaw05.ParcelNames': WHATEVER THE INPUT: true; the input reads as it did. -/
def parcelNamesSpec : ChangeSpec := { name := "parcelNames", fn := fun _ => fun
  | [] => { results := [.lit (.bool true)], args := [] }
  | _ => none }
def parcelNamesRow : OpenClaim := { program := "ytomlgnncncjmaaa", sum := "d4c514f1f3a40442ca9bd23e3821008680355744521569de915f47e5d69e6392", func := "hauberk/hauberklaw05.ParcelNames", spec := "parcelNames", unfollowed := true, recurses := true, apart := false }
def ParcelNamesSaid : Prop := parcelNamesRow.holds Try.pinned (OpenSpec.ofChange parcelNamesSpec)

/-- ITS FALSE NEIGHBOUR: 'it returns false'. Refute it at one input. -/
def parcelNamesWrong : ChangeSpec := { name := "parcelNames", fn := fun _ => fun
  | [] => { results := [.lit (.bool false)], args := [] }
  | _ => none }
def ParcelNamesWrongFalsely : Prop := parcelNamesRow.holds Try.pinned (OpenSpec.ofChange parcelNamesWrong)

/-- 'hauberklaw13.QueueDeeds': WHATEVER THE INPUT: true; the input reads as it did. -/
def queueDeedsSpec : ChangeSpec := { name := "queueDeeds", fn := fun _ => fun
  | [d] => { results := [.lit (.bool true)], args := [d] }
  | _ => none }
def queueDeedsRow : OpenClaim := { program := "ytomlgnncncjmaaa", sum := "d4c514f1f3a40442ca9bd23e3821008680355744521569de915f47e5d69e6392", func := "hauberk/hauberklaw13.QueueDeeds", spec := "queueDeeds", unfollowed := true, recurses := true, apart := false }
def QueueDeedsSaid : Prop := queueDeedsRow.holds Try.pinned (OpenSpec.ofChange queueDeedsSpec)

/-- ITS FALSE NEIGHBOUR: 'it returns false'. Refute it at one input. -/
def queueDeedsWrong : ChangeSpec := { name := "queueDeeds", fn := fun _ => fun
  | [d] => { results := [.lit (.bool false)], args := [d] }
  | _ => none }
def QueueDeedsWrongFalsely : Prop := queueDeedsRow.holds Try.pinned (OpenSpec.ofChange queueDeedsWrong)

/-- 'hauberklaw13.QueueOrder': WHATEVER THE INPUT: true; the input reads as it did. -/
def queueOrderSpec : ChangeSpec := { name := "queueOrder", fn := fun _ => fun
  | [d] => { results := [.lit (.bool true)], args := [d] }
  | _ => none }
def queueOrderRow : OpenClaim := { program := "ytomlgnncncjmaaa", sum := "d4c514f1f3a40442ca9bd23e3821008680355744521569de915f47e5d69e6392", func := "hauberk/hauberklaw13.QueueOrder", spec := "queueOrder", unfollowed := true, recurses := true, apart := false }
def QueueOrderSaid : Prop := queueOrderRow.holds Try.pinned (OpenSpec.ofChange queueOrderSpec)

/-- ITS FALSE NEIGHBOUR: 'it returns false'. Refute it at one input. -/
def queueOrderWrong : ChangeSpec := { name := "queueOrder", fn := fun _ => fun
  | [d] => { results := [.lit (.bool false)], args := [d] }
  | _ => none }
def QueueOrderWrongFalsely : Prop := queueOrderRow.holds Try.pinned (OpenSpec.ofChange queueOrderWrong)

/-- 'hauberklaw13.QueueTogether': WHATEVER THE INPUT: true; the input reads as it did. -/
def queueTogetherSpec : ChangeSpec := { name := "queueTogether", fn := fun _ => fun
  | [d] => { results := [.lit (.bool true)], args := [d] }
  | _ => none }
def queueTogetherRow : OpenClaim := { program := "ytomlgnncncjmaaa", sum := "d4c514f1f3a40442ca9bd23e3821008680355744521569de915f47e5d69e6392", func := "hauberk/hauberklaw13.QueueTogether", spec := "queueTogether", unfollowed := true, recurses := true, apart := false }
def QueueTogetherSaid : Prop := queueTogetherRow.holds Try.pinned (OpenSpec.ofChange queueTogetherSpec)

/-- ITS FALSE NEIGHBOUR: 'it returns false'. Refute it at one input. -/
def queueTogetherWrong : ChangeSpec := { name := "queueTogether", fn := fun _ => fun
  | [d] => { results := [.lit (.bool false)], args := [d] }
  | _ => none }
def QueueTogetherWrongFalsely : Prop := queueTogetherRow.holds Try.pinned (OpenSpec.ofChange queueTogetherWrong)

/-- 'hauberklaw13.QueueKnown': WHATEVER THE INPUT: true; the input reads as it did. -/
def queueKnownSpec : ChangeSpec := { name := "queueKnown", fn := fun _ => fun
  | [] => { results := [.lit (.bool true)], args := [] }
  | _ => none }
def queueKnownRow : OpenClaim := { program := "ytomlgnncncjmaaa", sum := "d4c514f1f3a40442ca9bd23e3821008680355744521569de915f47e5d69e6392", func := "hauberk/hauberklaw13.QueueKnown", spec := "queueKnown", unfollowed := true, recurses := true, apart := false }
def QueueKnownSaid : Prop := queueKnownRow.holds Try.pinned (OpenSpec.ofChange queueKnownSpec)

/-- ITS FALSE NEIGHBOUR: 'it returns false'. Refute it at one input. -/
def queueKnownWrong : ChangeSpec := { name := "queueKnown", fn := fun _ => fun
  | [] => { results := [.lit (.bool false)], args := [] }
  | _ => none }
def QueueKnownWrongFalsely : Prop := queueKnownRow.holds Try.pinned (OpenSpec.ofChange queueKnownWrong)

/- THE SECOND FORM. 'bulk': how many values and letters a reading holds, each counted each time it is reached (what is shared counts as often as it is met; a slice's spare places count too). A statement '..UptoSaid' is the law's where the arguments, and the package variables that the reading takes, are together of bulk at most 1048576: NARROWER than '..Said'. Prove '..Said' where nothing that the law and all that it calls make is longer than what came in: it says more and counts as full. Else prove '..UptoSaid'. A law counts once. -/
mutual
def uptoBulk {H : Type} : DataW H → Nat
  | .lit (.string bytes) => bytes.length + 1
  | .lit _ => 1
  | .nil => 1
  | .ptr d => uptoBulk d + 1
  | .slice elems spare => uptoBulkAll elems + uptoBulkAll spare + 1
  | .agg parts => uptoBulkAll parts + 1
  | .iface _ d => uptoBulk d + 1
  | .map entries => uptoBulkEntries entries + 1
  | .held _ => 1
def uptoBulkAll {H : Type} : List (DataW H) → Nat
  | [] => 0
  | d :: r => uptoBulk d + uptoBulkAll r
def uptoBulkEntries {H : Type} : List (Lit × DataW H) → Nat
  | [] => 0
  | x :: r => uptoBulkEntry x + uptoBulkEntries r
def uptoBulkEntry {H : Type} : Lit × DataW H → Nat
  | (.string bytes, d) => bytes.length + uptoBulk d + 1
  | (_, d) => uptoBulk d + 1
 end
def uptoSmall : (H : Type) → List (DataW H) → Bool := fun _ ds => decide (uptoBulkAll ds ≤ 1048576)
def OpenSpec.upto (s : _root_.Go.ChangeSpec) : _root_.Go.OpenSpec := { _root_.Go.OpenSpec.ofChange s with cond := some uptoSmall }

/-- 'hauberklaw05.ParcelPacks', WHERE WHAT IT READS IS OF BULK AT MOST 1048576: true; the input reads as it did. -/
def parcelPacksUptoRow : OpenClaim := { program := "ytomlgnncncjmaaa", sum := "d4c514f1f3a40442ca9bd23e3821008680355744521569de915f47e5d69e6392", func := "hauberk/hauberklaw05.ParcelPacks", spec := "parcelPacks", unfollowed := true, recurses := true, apart := false, narrowed := true }
def ParcelPacksUptoSaid : Prop := parcelPacksUptoRow.holds Try.pinned (OpenSpec.upto parcelPacksSpec)

/-- 'hauberklaw05.ParcelUnpacks', WHERE WHAT IT READS IS OF BULK AT MOST 1048576: true; the input reads as it did. -/
def parcelUnpacksUptoRow : OpenClaim := { program := "ytomlgnncncjmaaa", sum := "d4c514f1f3a40442ca9bd23e3821008680355744521569de915f47e5d69e6392", func := "hauberk/hauberklaw05.ParcelUnpacks", spec := "parcelUnpacks", unfollowed := true, recurses := true, apart := false, narrowed := true }
def ParcelUnpacksUptoSaid : Prop := parcelUnpacksUptoRow.holds Try.pinned (OpenSpec.upto parcelUnpacksSpec)

/-- 'hauberklaw05.ParcelCharts', WHERE WHAT IT READS IS OF BULK AT MOST 1048576: true; the input reads as it did. -/
def parcelChartsUptoRow : OpenClaim := { program := "ytomlgnncncjmaaa", sum := "d4c514f1f3a40442ca9bd23e3821008680355744521569de915f47e5d69e6392", func := "hauberk/hauberklaw05.ParcelCharts", spec := "parcelCharts", unfollowed := true, recurses := true, apart := false, narrowed := true }
def ParcelChartsUptoSaid : Prop := parcelChartsUptoRow.holds Try.pinned (OpenSpec.upto parcelChartsSpec)

/-- 'hauberklaw05.ParcelBack', WHERE WHAT IT READS IS OF BULK AT MOST 1048576: true; the input reads as it did. -/
def parcelBackUptoRow : OpenClaim := { program := "ytomlgnncncjmaaa", sum := "d4c514f1f3a40442ca9bd23e3821008680355744521569de915f47e5d69e6392", func := "hauberk/hauberklaw05.ParcelBack", spec := "parcelBack", unfollowed := true, recurses := true, apart := false, narrowed := true }
def ParcelBackUptoSaid : Prop := parcelBackUptoRow.holds Try.pinned (OpenSpec.upto parcelBackSpec)

/-- 'hauberklaw05.ParcelOnce', WHERE WHAT IT READS IS OF BULK AT MOST 1048576: true; the input reads as it did. -/
def parcelOnceUptoRow : OpenClaim := { program := "ytomlgnncncjmaaa", sum := "d4c514f1f3a40442ca9bd23e3821008680355744521569de915f47e5d69e6392", func := "hauberk/hauberklaw05.ParcelOnce", spec := "parcelOnce", unfollowed := true, recurses := true, apart := false, narrowed := true }
def ParcelOnceUptoSaid : Prop := parcelOnceUptoRow.holds Try.pinned (OpenSpec.upto parcelOnceSpec)

/-- 'hauberklaw05.ParcelAgain', WHERE WHAT IT READS IS OF BULK AT MOST 1048576: true; the input reads as it did. -/
def parcelAgainUptoRow : OpenClaim := { program := "ytomlgnncncjmaaa", sum := "d4c514f1f3a40442ca9bd23e3821008680355744521569de915f47e5d69e6392", func := "hauberk/hauberklaw05.ParcelAgain", spec := "parcelAgain", unfollowed := true, recurses := true, apart := false, narrowed := true }
def ParcelAgainUptoSaid : Prop := parcelAgainUptoRow.holds Try.pinned (OpenSpec.upto parcelAgainSpec)

/-- 'hauberklaw05.ParcelNames', WHERE WHAT IT READS IS OF BULK AT MOST 1048576: true; the input reads as it did. -/
def parcelNamesUptoRow : OpenClaim := { program := "ytomlgnncncjmaaa", sum := "d4c514f1f3a40442ca9bd23e3821008680355744521569de915f47e5d69e6392", func := "hauberk/hauberklaw05.ParcelNames", spec := "parcelNames", unfollowed := true, recurses := true, apart := false, narrowed := true }
def ParcelNamesUptoSaid : Prop := parcelNamesUptoRow.holds Try.pinned (OpenSpec.upto parcelNamesSpec)

/-- 'hauberklaw13.QueueDeeds', WHERE WHAT IT READS IS OF BULK AT MOST 1048576: true; the input reads as it did. -/
def queueDeedsUptoRow : OpenClaim := { program := "ytomlgnncncjmaaa", sum := "d4c514f1f3a40442ca9bd23e3821008680355744521569de915f47e5d69e6392", func := "hauberk/hauberklaw13.QueueDeeds", spec := "queueDeeds", unfollowed := true, recurses := true, apart := false, narrowed := true }
def QueueDeedsUptoSaid : Prop := queueDeedsUptoRow.holds Try.pinned (OpenSpec.upto queueDeedsSpec)

/-- 'hauberklaw13.QueueOrder', WHERE WHAT IT READS IS OF BULK AT MOST 1048576: true; the input reads as it did. -/
def queueOrderUptoRow : OpenClaim := { program := "ytomlgnncncjmaaa", sum := "d4c514f1f3a40442ca9bd23e3821008680355744521569de915f47e5d69e6392", func := "hauberk/hauberklaw13.QueueOrder", spec := "queueOrder", unfollowed := true, recurses := true, apart := false, narrowed := true }
def QueueOrderUptoSaid : Prop := queueOrderUptoRow.holds Try.pinned (OpenSpec.upto queueOrderSpec)

/-- 'hauberklaw13.QueueTogether', WHERE WHAT IT READS IS OF BULK AT MOST 1048576: true; the input reads as it did. -/
def queueTogetherUptoRow : OpenClaim := { program := "ytomlgnncncjmaaa", sum := "d4c514f1f3a40442ca9bd23e3821008680355744521569de915f47e5d69e6392", func := "hauberk/hauberklaw13.QueueTogether", spec := "queueTogether", unfollowed := true, recurses := true, apart := false, narrowed := true }
def QueueTogetherUptoSaid : Prop := queueTogetherUptoRow.holds Try.pinned (OpenSpec.upto queueTogetherSpec)

/-- 'hauberklaw13.QueueKnown', WHERE WHAT IT READS IS OF BULK AT MOST 1048576: true; the input reads as it did. -/
def queueKnownUptoRow : OpenClaim := { program := "ytomlgnncncjmaaa", sum := "d4c514f1f3a40442ca9bd23e3821008680355744521569de915f47e5d69e6392", func := "hauberk/hauberklaw13.QueueKnown", spec := "queueKnown", unfollowed := true, recurses := true, apart := false, narrowed := true }
def QueueKnownUptoSaid : Prop := queueKnownUptoRow.holds Try.pinned (OpenSpec.upto queueKnownSpec)

end Rows
end Go.Proofs.Ytomlgnncncjmaaa
