/-
  No cell of these rows narrows 'for every input' (looked for: loops, veiled, ifaces, maps, wideKeys, modest, calm, conditions, laid).
  DERIVED. THE GIVEN ROWS OF THIS SEAT. 9 by the template 'for every input the law returns true; each argument reads behind the call as it read before'; 0 by the template 'total and deterministic' (their statements: YtgblmkpfkcibiaaTotals.lean).
  GIVEN WITH THE SEED: the statements are not yours to turn. If you find one false, say at which input.
  Laid BY PROGRAM, IN A SANDBOX (cutbox-rows.mjs): the forced cells as the released guide's own fill.sh prints them over the translation e3b8b031195b00d0… (all of the seat's roots in one cut). By AI agents, Wed Nov 11 2026. No macro, syntax, notation, axiom, sorry.
-/
import Derived.Test.YtgblmkpfkcibiaaChecked
import GoSem.Claim
import GoSem.ClaimJoined
import GoSem.ClaimMapViews
import Derived.JoinedTies
import Derived.KernelRfl
namespace Go.Proofs.Ytgblmkpfkcibiaa
/- THE CELL 'sum', in the pinned program and in every row, IS THE sha256 OF THE DUMP (.gsa) THAT YtgblmkpfkcibiaaProg.lean LOADS. Nothing in Lean hashes anything: it is a label: what it is worth is what the hold of that sum in a sandbox is worth. -/
noncomputable def Try.pinned : Pinned := { name := "ytgblmkpfkcibiaa", sum := "e3b8b031195b00d0dfd73db72c35e89e71b21aa41068cfa813d5e08c631eb8af", checked := Try.checked }
namespace Rows
def none {H : Type} : Left H := { results := [], args := [] }

/-- 'hauberklaw23.ChartPlans': WHATEVER THE INPUT: true; the input reads as it did. -/
def chartPlansSpec : ChangeSpec := { name := "chartPlans", fn := fun _ => fun
  | [d1, d2, d3] => { results := [.lit (.bool true)], args := [d1, d2, d3] }
  | _ => none }
def chartPlansRow : OpenClaim := { program := "ytgblmkpfkcibiaa", sum := "e3b8b031195b00d0dfd73db72c35e89e71b21aa41068cfa813d5e08c631eb8af", func := "hauberk/hauberklaw23.ChartPlans", spec := "chartPlans", unfollowed := true, recurses := true, apart := false }
def ChartPlansSaid : Prop := chartPlansRow.holds Try.pinned (OpenSpec.ofChange chartPlansSpec)

/-- ITS FALSE NEIGHBOUR: 'it returns false'. Refute it at one input. -/
def chartPlansWrong : ChangeSpec := { name := "chartPlans", fn := fun _ => fun
  | [d1, d2, d3] => { results := [.lit (.bool false)], args := [d1, d2, d3] }
  | _ => none }
def ChartPlansWrongFalsely : Prop := chartPlansRow.holds Try.pinned (OpenSpec.ofChange chartPlansWrong)

/-- 'hauberklaw23.ChartViews': WHATEVER THE INPUT: true; the input reads as it did. -/
def chartViewsSpec : ChangeSpec := { name := "chartViews", fn := fun _ => fun
  | [d1, d2, d3] => { results := [.lit (.bool true)], args := [d1, d2, d3] }
  | _ => none }
def chartViewsRow : OpenClaim := { program := "ytgblmkpfkcibiaa", sum := "e3b8b031195b00d0dfd73db72c35e89e71b21aa41068cfa813d5e08c631eb8af", func := "hauberk/hauberklaw23.ChartViews", spec := "chartViews", unfollowed := true, recurses := true, apart := false }
def ChartViewsSaid : Prop := chartViewsRow.holds Try.pinned (OpenSpec.ofChange chartViewsSpec)

/-- ITS FALSE NEIGHBOUR: 'it returns false'. Refute it at one input. -/
def chartViewsWrong : ChangeSpec := { name := "chartViews", fn := fun _ => fun
  | [d1, d2, d3] => { results := [.lit (.bool false)], args := [d1, d2, d3] }
  | _ => none }
def ChartViewsWrongFalsely : Prop := chartViewsRow.holds Try.pinned (OpenSpec.ofChange chartViewsWrong)

/-- 'hauberklaw23.ChartLearns': WHATEVER THE INPUT: true; the input reads as it did. -/
def chartLearnsSpec : ChangeSpec := { name := "chartLearns", fn := fun _ => fun
  | [d1, d2] => { results := [.lit (.bool true)], args := [d1, d2] }
  | _ => none }
def chartLearnsRow : OpenClaim := { program := "ytgblmkpfkcibiaa", sum := "e3b8b031195b00d0dfd73db72c35e89e71b21aa41068cfa813d5e08c631eb8af", func := "hauberk/hauberklaw23.ChartLearns", spec := "chartLearns", unfollowed := true, recurses := true, apart := false }
def ChartLearnsSaid : Prop := chartLearnsRow.holds Try.pinned (OpenSpec.ofChange chartLearnsSpec)

/-- ITS FALSE NEIGHBOUR: 'it returns false'. Refute it at one input. -/
def chartLearnsWrong : ChangeSpec := { name := "chartLearns", fn := fun _ => fun
  | [d1, d2] => { results := [.lit (.bool false)], args := [d1, d2] }
  | _ => none }
def ChartLearnsWrongFalsely : Prop := chartLearnsRow.holds Try.pinned (OpenSpec.ofChange chartLearnsWrong)

/-- 'hauberklaw23.ChartBoth': WHATEVER THE INPUT: true; the input reads as it did. -/
def chartBothSpec : ChangeSpec := { name := "chartBoth", fn := fun _ => fun
  | [d1, d2] => { results := [.lit (.bool true)], args := [d1, d2] }
  | _ => none }
def chartBothRow : OpenClaim := { program := "ytgblmkpfkcibiaa", sum := "e3b8b031195b00d0dfd73db72c35e89e71b21aa41068cfa813d5e08c631eb8af", func := "hauberk/hauberklaw23.ChartBoth", spec := "chartBoth", unfollowed := true, recurses := true, apart := false }
def ChartBothSaid : Prop := chartBothRow.holds Try.pinned (OpenSpec.ofChange chartBothSpec)

/-- ITS FALSE NEIGHBOUR: 'it returns false'. Refute it at one input. -/
def chartBothWrong : ChangeSpec := { name := "chartBoth", fn := fun _ => fun
  | [d1, d2] => { results := [.lit (.bool false)], args := [d1, d2] }
  | _ => none }
def ChartBothWrongFalsely : Prop := chartBothRow.holds Try.pinned (OpenSpec.ofChange chartBothWrong)

/-- 'hauberklaw23.ChartFewer': WHATEVER THE INPUT: true; the input reads as it did. -/
def chartFewerSpec : ChangeSpec := { name := "chartFewer", fn := fun _ => fun
  | [d1, d2, d3] => { results := [.lit (.bool true)], args := [d1, d2, d3] }
  | _ => none }
def chartFewerRow : OpenClaim := { program := "ytgblmkpfkcibiaa", sum := "e3b8b031195b00d0dfd73db72c35e89e71b21aa41068cfa813d5e08c631eb8af", func := "hauberk/hauberklaw23.ChartFewer", spec := "chartFewer", unfollowed := true, recurses := true, apart := false }
def ChartFewerSaid : Prop := chartFewerRow.holds Try.pinned (OpenSpec.ofChange chartFewerSpec)

/-- ITS FALSE NEIGHBOUR: 'it returns false'. Refute it at one input. -/
def chartFewerWrong : ChangeSpec := { name := "chartFewer", fn := fun _ => fun
  | [d1, d2, d3] => { results := [.lit (.bool false)], args := [d1, d2, d3] }
  | _ => none }
def ChartFewerWrongFalsely : Prop := chartFewerRow.holds Try.pinned (OpenSpec.ofChange chartFewerWrong)

/-- 'hauberklaw23.ChartOrder': WHATEVER THE INPUT: true; the input reads as it did. -/
def chartOrderSpec : ChangeSpec := { name := "chartOrder", fn := fun _ => fun
  | [d1, d2] => { results := [.lit (.bool true)], args := [d1, d2] }
  | _ => none }
def chartOrderRow : OpenClaim := { program := "ytgblmkpfkcibiaa", sum := "e3b8b031195b00d0dfd73db72c35e89e71b21aa41068cfa813d5e08c631eb8af", func := "hauberk/hauberklaw23.ChartOrder", spec := "chartOrder", unfollowed := true, recurses := true, apart := false }
def ChartOrderSaid : Prop := chartOrderRow.holds Try.pinned (OpenSpec.ofChange chartOrderSpec)

/-- ITS FALSE NEIGHBOUR: 'it returns false'. Refute it at one input. -/
def chartOrderWrong : ChangeSpec := { name := "chartOrder", fn := fun _ => fun
  | [d1, d2] => { results := [.lit (.bool false)], args := [d1, d2] }
  | _ => none }
def ChartOrderWrongFalsely : Prop := chartOrderRow.holds Try.pinned (OpenSpec.ofChange chartOrderWrong)

/-- 'hauberklaw23.ChartKnown': WHATEVER THE INPUT: true; the input reads as it did. -/
def chartKnownSpec : ChangeSpec := { name := "chartKnown", fn := fun _ => fun
  | [] => { results := [.lit (.bool true)], args := [] }
  | _ => none }
def chartKnownRow : OpenClaim := { program := "ytgblmkpfkcibiaa", sum := "e3b8b031195b00d0dfd73db72c35e89e71b21aa41068cfa813d5e08c631eb8af", func := "hauberk/hauberklaw23.ChartKnown", spec := "chartKnown", unfollowed := true, recurses := true, apart := false }
def ChartKnownSaid : Prop := chartKnownRow.holds Try.pinned (OpenSpec.ofChange chartKnownSpec)

/-- ITS FALSE NEIGHBOUR: 'it returns false'. Refute it at one input. -/
def chartKnownWrong : ChangeSpec := { name := "chartKnown", fn := fun _ => fun
  | [] => { results := [.lit (.bool false)], args := [] }
  | _ => none }
def ChartKnownWrongFalsely : Prop := chartKnownRow.holds Try.pinned (OpenSpec.ofChange chartKnownWrong)

/-- 'hauberklaw20.RegainSame': WHATEVER THE INPUT: true; the input reads as it did. -/
def regainSameSpec : ChangeSpec := { name := "regainSame", fn := fun _ => fun
  | [d1, d2, d3] => { results := [.lit (.bool true)], args := [d1, d2, d3] }
  | _ => none }
def regainSameRow : OpenClaim := { program := "ytgblmkpfkcibiaa", sum := "e3b8b031195b00d0dfd73db72c35e89e71b21aa41068cfa813d5e08c631eb8af", func := "hauberk/hauberklaw20.RegainSame", spec := "regainSame", unfollowed := true, recurses := true, apart := false }
def RegainSameSaid : Prop := regainSameRow.holds Try.pinned (OpenSpec.ofChange regainSameSpec)

/-- ITS FALSE NEIGHBOUR: 'it returns false'. Refute it at one input. -/
def regainSameWrong : ChangeSpec := { name := "regainSame", fn := fun _ => fun
  | [d1, d2, d3] => { results := [.lit (.bool false)], args := [d1, d2, d3] }
  | _ => none }
def RegainSameWrongFalsely : Prop := regainSameRow.holds Try.pinned (OpenSpec.ofChange regainSameWrong)

/-- 'hauberklaw20.RegainOthers': WHATEVER THE INPUT: true; the input reads as it did. -/
def regainOthersSpec : ChangeSpec := { name := "regainOthers", fn := fun _ => fun
  | [d1, d2] => { results := [.lit (.bool true)], args := [d1, d2] }
  | _ => none }
def regainOthersRow : OpenClaim := { program := "ytgblmkpfkcibiaa", sum := "e3b8b031195b00d0dfd73db72c35e89e71b21aa41068cfa813d5e08c631eb8af", func := "hauberk/hauberklaw20.RegainOthers", spec := "regainOthers", unfollowed := true, recurses := true, apart := false }
def RegainOthersSaid : Prop := regainOthersRow.holds Try.pinned (OpenSpec.ofChange regainOthersSpec)

/-- ITS FALSE NEIGHBOUR: 'it returns false'. Refute it at one input. -/
def regainOthersWrong : ChangeSpec := { name := "regainOthers", fn := fun _ => fun
  | [d1, d2] => { results := [.lit (.bool false)], args := [d1, d2] }
  | _ => none }
def RegainOthersWrongFalsely : Prop := regainOthersRow.holds Try.pinned (OpenSpec.ofChange regainOthersWrong)

/- THE SECOND FORM. 'bulk': how many values and letters a reading holds, each counted each time it is reached (what is shared counts as often as it is met; a slice's spare places count too). A statement '..UptoSaid' is the law's where the arguments, and the package variables that the reading takes, are together of bulk at most 1048576: NARROWER than '..Said'. Prove '..Said' where nothing that the law and all that it calls make is longer than what came in: it says more and counts as full. Else prove '..UptoSaid'. A law counts once. -/
mutual
def uptoBulk {H : Type} : DataW H → Nat
  | .lit (.string bytes) => bytes.length + 1
  | .lit _ => 1
  | .nil => 1
  | .ptr d => uptoBulk d + 1
  | .slice elems spare => uptoBulkAll elems + uptoBulkAll spare + 1
  | .agg parts => uptoBulkAll parts + 1
  | .iface _ d => uptoBulk d + 1
  | .map entries => uptoBulkEntries entries + 1
  | .held _ => 1
def uptoBulkAll {H : Type} : List (DataW H) → Nat
  | [] => 0
  | d :: r => uptoBulk d + uptoBulkAll r
def uptoBulkEntries {H : Type} : List (Lit × DataW H) → Nat
  | [] => 0
  | x :: r => uptoBulkEntry x + uptoBulkEntries r
def uptoBulkEntry {H : Type} : Lit × DataW H → Nat
  | (.string bytes, d) => bytes.length + uptoBulk d + 1
  | (_, d) => uptoBulk d + 1
 end
def uptoSmall : (H : Type) → List (DataW H) → Bool := fun _ ds => decide (uptoBulkAll ds ≤ 1048576)
def OpenSpec.upto (s : _root_.Go.ChangeSpec) : _root_.Go.OpenSpec := { _root_.Go.OpenSpec.ofChange s with cond := some uptoSmall }

/-- 'hauberklaw23.ChartPlans', WHERE WHAT IT READS IS OF BULK AT MOST 1048576: true; the input reads as it did. -/
def chartPlansUptoRow : OpenClaim := { program := "ytgblmkpfkcibiaa", sum := "e3b8b031195b00d0dfd73db72c35e89e71b21aa41068cfa813d5e08c631eb8af", func := "hauberk/hauberklaw23.ChartPlans", spec := "chartPlans", unfollowed := true, recurses := true, apart := false, narrowed := true }
def ChartPlansUptoSaid : Prop := chartPlansUptoRow.holds Try.pinned (OpenSpec.upto chartPlansSpec)

/-- 'hauberklaw23.ChartViews', WHERE WHAT IT READS IS OF BULK AT MOST 1048576: true; the input reads as it did. -/
def chartViewsUptoRow : OpenClaim := { program := "ytgblmkpfkcibiaa", sum := "e3b8b031195b00d0dfd73db72c35e89e71b21aa41068cfa813d5e08c631eb8af", func := "hauberk/hauberklaw23.ChartViews", spec := "chartViews", unfollowed := true, recurses := true, apart := false, narrowed := true }
def ChartViewsUptoSaid : Prop := chartViewsUptoRow.holds Try.pinned (OpenSpec.upto chartViewsSpec)

/-- 'hauberklaw23.ChartLearns', WHERE WHAT IT READS IS OF BULK AT MOST 1048576: true; the input reads as it did. -/
def chartLearnsUptoRow : OpenClaim := { program := "ytgblmkpfkcibiaa", sum := "e3b8b031195b00d0dfd73db72c35e89e71b21aa41068cfa813d5e08c631eb8af", func := "hauberk/hauberklaw23.ChartLearns", spec := "chartLearns", unfollowed := true, recurses := true, apart := false, narrowed := true }
def ChartLearnsUptoSaid : Prop := chartLearnsUptoRow.holds Try.pinned (OpenSpec.upto chartLearnsSpec)

/-- 'hauberklaw23.ChartBoth', WHERE WHAT IT READS IS OF BULK AT MOST 1048576: true; the input reads as it did. -/
def chartBothUptoRow : OpenClaim := { program := "ytgblmkpfkcibiaa", sum := "e3b8b031195b00d0dfd73db72c35e89e71b21aa41068cfa813d5e08c631eb8af", func := "hauberk/hauberklaw23.ChartBoth", spec := "chartBoth", unfollowed := true, recurses := true, apart := false, narrowed := true }
def ChartBothUptoSaid : Prop := chartBothUptoRow.holds Try.pinned (OpenSpec.upto chartBothSpec)

/-- 'hauberklaw23.ChartFewer', WHERE WHAT IT READS IS OF BULK AT MOST 1048576: true; the input reads as it did. -/
def chartFewerUptoRow : OpenClaim := { program := "ytgblmkpfkcibiaa", sum := "e3b8b031195b00d0dfd73db72c35e89e71b21aa41068cfa813d5e08c631eb8af", func := "hauberk/hauberklaw23.ChartFewer", spec := "chartFewer", unfollowed := true, recurses := true, apart := false, narrowed := true }
def ChartFewerUptoSaid : Prop := chartFewerUptoRow.holds Try.pinned (OpenSpec.upto chartFewerSpec)

/-- 'hauberklaw23.ChartOrder', WHERE WHAT IT READS IS OF BULK AT MOST 1048576: true; the input reads as it did. -/
def chartOrderUptoRow : OpenClaim := { program := "ytgblmkpfkcibiaa", sum := "e3b8b031195b00d0dfd73db72c35e89e71b21aa41068cfa813d5e08c631eb8af", func := "hauberk/hauberklaw23.ChartOrder", spec := "chartOrder", unfollowed := true, recurses := true, apart := false, narrowed := true }
def ChartOrderUptoSaid : Prop := chartOrderUptoRow.holds Try.pinned (OpenSpec.upto chartOrderSpec)

/-- 'hauberklaw23.ChartKnown', WHERE WHAT IT READS IS OF BULK AT MOST 1048576: true; the input reads as it did. -/
def chartKnownUptoRow : OpenClaim := { program := "ytgblmkpfkcibiaa", sum := "e3b8b031195b00d0dfd73db72c35e89e71b21aa41068cfa813d5e08c631eb8af", func := "hauberk/hauberklaw23.ChartKnown", spec := "chartKnown", unfollowed := true, recurses := true, apart := false, narrowed := true }
def ChartKnownUptoSaid : Prop := chartKnownUptoRow.holds Try.pinned (OpenSpec.upto chartKnownSpec)

/-- 'hauberklaw20.RegainSame', WHERE WHAT IT READS IS OF BULK AT MOST 1048576: true; the input reads as it did. -/
def regainSameUptoRow : OpenClaim := { program := "ytgblmkpfkcibiaa", sum := "e3b8b031195b00d0dfd73db72c35e89e71b21aa41068cfa813d5e08c631eb8af", func := "hauberk/hauberklaw20.RegainSame", spec := "regainSame", unfollowed := true, recurses := true, apart := false, narrowed := true }
def RegainSameUptoSaid : Prop := regainSameUptoRow.holds Try.pinned (OpenSpec.upto regainSameSpec)

/-- 'hauberklaw20.RegainOthers', WHERE WHAT IT READS IS OF BULK AT MOST 1048576: true; the input reads as it did. -/
def regainOthersUptoRow : OpenClaim := { program := "ytgblmkpfkcibiaa", sum := "e3b8b031195b00d0dfd73db72c35e89e71b21aa41068cfa813d5e08c631eb8af", func := "hauberk/hauberklaw20.RegainOthers", spec := "regainOthers", unfollowed := true, recurses := true, apart := false, narrowed := true }
def RegainOthersUptoSaid : Prop := regainOthersUptoRow.holds Try.pinned (OpenSpec.upto regainOthersSpec)

end Rows
end Go.Proofs.Ytgblmkpfkcibiaa
