/-
  The law ParcelOnce holds, as its row says it: bytes that are a message, or places, are just those that it is packed into. Conditions: none.
-/
import Derived.Test.YtomlgnncncjmaaaA28
namespace Go.Proofs.Ytomlgnncncjmaaa
open Go.Hb Go.ChangeShapes Go.WideShapes
attribute [local irreducible] LR CW At Ev thn blk finK noG again CallsTo DW QL dnext
set_option linter.unusedSimpArgs false
set_option linter.unusedVariables false

set_option maxHeartbeats 1000000 in
set_option maxRecDepth 100000 in
theorem parcelOnce_lifted (os : Os) (started : os.Started) (H : Type) (enc : TypeId × Value → H) :
    ReturnsInHanded {} Try.checked os 7 .any (Rows.parcelOnceSpec.pre6 enc Try.prog Try.f7 Rows.parcelOnceRow.domain false) (Rows.parcelOnceSpec.post enc Try.prog Try.f7 false true false false) := by
  refine returnsInHanded_of_change_sized (C := Try.checked) (s := Rows.parcelOnceSpec) own_knob started (by kernel_rfl) Try.func7
    (ChangeSpec.witness6 (enc := enc) (C := Try.checked) false ⟨#[], #[.slice none 0 0, .int .u8 0], []⟩ 12 (by kernel_rfl) (by kernel_rfl) (by kernel_rfl) (by kernel_rfl)) ?_
  intro W base args ds gs before hval hW hcnd hwt _
  have hW' := hW
  obtain ⟨p, q, hA0, hV, rfl, hfz, hnd⟩ := hW'
  obtain ⟨rfl, rfl⟩ := trodVars_none hV
  have hA : DataW.TrodAll enc Try.prog W 0 (fun _ => true) true Try.f7.params.toList args.toList ds p := hA0
  rw [Try.params7] at hA
  obtain ⟨v0, vs0, d0, ds0, p0, q0, hargs, rfl, rfl, h0, r0⟩ := trodAll_cons hA
  obtain ⟨v1, vs1, d1, ds1, p1, q1, rfl, rfl, rfl, h1, r1⟩ := trodAll_cons r0
  obtain ⟨rfl, rfl, rfl⟩ := trodAll_nil r1
  obtain rfl : args = #[v0, v1] := by cases args; simp_all
  obtain ⟨a0, c0, l0, hcs0, hr0, hb0, hz0, hc0, hm0⟩ := opn_arg (i := 0) opn_bytes h0 hwt rfl rfl
  obtain ⟨b0, n0, e0, rfl⟩ := okWide_slice Try.underlying26 (hval 0 26 v0 rfl rfl)
  have hcs0 : [Value.slice b0 n0 e0] = [.slice a0 l0.length c0] := hcs0
  simp only [List.cons.injEq, Value.slice.injEq, and_true] at hcs0
  obtain ⟨e10, e20, e30⟩ := hcs0
  have e10 := e10.symm
  have e30 := e30.symm
  subst e10; subst e20; subst e30
  obtain ⟨x1, hcs1, hb1⟩ := opn_arg (i := 1) opn_u8 h1 hwt rfl rfl
  obtain ⟨y1, rfl⟩ := okWide_int Try.underlying5 (hval 1 5 v1 rfl rfl)
  have hcs1 : [Value.int .u8 y1] = [.int .u8 x1] := hcs1
  simp only [List.cons.injEq, Value.int.injEq, true_and, and_true] at hcs1
  have hcs1 := hcs1.symm
  subst hcs1
  refine (c7 a0 c0 l0 x1 W hr0 hz0 hm0 hb0 hb1).calls fun v W' ⟨hv, hg⟩ => ⟨v, rfl, ?_⟩
  subst hv
  exact law_post kids full_slices hW hg rfl rfl (by kernel_rfl) Try.underlying4 (by rw [Try.params7]; decide +kernel)

theorem parcelOnce_holds : Rows.ParcelOnceSaid :=
  OpenClaim.holds_of_wide 7 Try.f7 rfl rfl rfl rfl rfl rfl rfl ⟨rfl, rfl, rfl, rfl, rfl⟩ rfl rfl rfl rfl rfl (by kernel_rfl) Try.func7 (by kernel_rfl)
    (of_decide_eq_true (by kernel_rfl)) (by unfold Func.isWrapper; first | (rw [if_pos (by decide +kernel)]; kernel_rfl) | (rw [if_neg (by decide +kernel)]; exact ⟨rfl, rfl⟩))
    (fun os started H enc _ => parcelOnce_lifted os started H enc)
end Go.Proofs.Ytomlgnncncjmaaa
