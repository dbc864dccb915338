/-
  The tied card of RingLife.
-/
import Derived.Test.YtohbcfokihplbaaGreatDoorRLCM16
import Derived.Test.YtohbcfokihplbaaGreatDoorTie
import Derived.Test.YtohbcfokihplbaaGreatDoorCards
import Derived.SevenTiedAt
set_option linter.unusedSimpArgs false
set_option linter.unusedVariables false
namespace Go.Proofs.YtohbcfokihplbaaGreatDoor
open Go
theorem ringLife_wf : Rows.ringLifeRow.wfByText (OpenSpec.ofChange Rows.ringLifeSpec) = true := by kernel_rfl
theorem ringLife_main : Tryz.pinned.checked.prog.mainIs = some (true, ("e79b5e927c56bb364b62b53f4df4270c1eafb271a1a7923f54a4aecb8fc1b52f" : String).toList) := by kernel_rfl
theorem ringLife_looks : false = Tryz.prog.looks [] := by kernel_rfl
theorem ringLife_stand : ([3,3,35].all fun u=>!Tryz.prog.wantsStandIn u) = true := by kernel_rfl
theorem ringLife_goes : false = Rows.ringLifeRow.goesBy Tryz.pinned.checked.prog := by kernel_rfl
theorem ringLife_card : Rows.RingLifeCardSaid :=
  Claim7.holds_tied_plain_at (p := Tryz.pinned) (s := OpenSpec.ofChange Rows.ringLifeSpec) (c := Rows.ringLifeRow) .later [] [.data, .data] true (true, "e79b5e927c56bb364b62b53f4df4270c1eafb271a1a7923f54a4aecb8fc1b52f") false
  ringLife_holds (fun _ h=>by cases h) ringLife_wf (fun _ h=>by cases h) ringLife_row_tie rfl ⟨rfl,rfl⟩ ringLife_main rfl
  (fun f fn hf hfn=>by
   obtain rfl : f = 4 := Option.some.inj (ringLife_fn.symm.trans hf) |>.symm
   obtain rfl : fn = Tryz.f4 := (Option.some.inj (Tryz.func4.symm.trans hfn)).symm
   exact ⟨ringLife_looks,fun j t ht=>by
    rw [Tryz.params4] at ht
    have hm : t ∈ [3,3,35] := by simpa using Array.mem_of_getElem? ht
    exact (show Tryz.prog.wantsStandIn t = false by simpa using List.all_eq_true.1 ringLife_stand t hm)⟩)
  ringLife_goes
end Go.Proofs.YtohbcfokihplbaaGreatDoor
