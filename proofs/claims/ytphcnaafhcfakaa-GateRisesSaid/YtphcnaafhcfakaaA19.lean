/-
  Pack of the program; small functions on messages and places.
-/
import Derived.Test.YtphcnaafhcfakaaA18
-- all by hand
namespace Go.Proofs.Ytphcnaafhcfakaa
open Go.Hb
attribute [local irreducible] LR CW At Ev thn blk finK noG again CallsTo DW QL dnext
set_option linter.unusedSimpArgs false
set_option linter.unusedVariables false
set_option maxRecDepth 100000

def b2i (b : Bool) : Int := if b then 1 else 0
def msgNums (m : Msg) : List Int := [m.kind, m.origin, m.life, m.id, m.part, m.parts, m.groups, b2i m.safe, m.stamp, m.rseq, m.rrep, m.kseq]
def bytesM (m : Msg) : List Int := encs (msgNums m) ++ enc m.body.length ++ m.body
def pack (m : Msg) : List Int × Int := if check m ≠ 0 then ([], check m) else (bytesM m, 0)

theorem ring_ok {s r : Int} (h : ringB s r = true) : okN s ∧ okN r := by
  unfold ringB at h; rw [numB_iff] at h; unfold okN; simp at h; omega
theorem check_ok {m : Msg} (h : check m = 0) : m.body.length ≤ 160 ∧ mayB unpack m = true := by
  unfold check checkM at h
  split at h
  · cases h
  · split at h
    · exact ⟨by omega, by assumption⟩
    · cases h
theorem key_ok {t s r q : Int} (h : keyE t s r q = 0) : okN t ∧ okN s ∧ okN r ∧ okN q := by
  unfold keyE at h
  split at h
  · rename_i hk
    unfold keyB at hk; rw [numB_iff, numB_iff] at hk
    simp only [Bool.and_eq_true, decide_eq_true_eq] at hk
    have := ring_ok hk.2
    exact ⟨hk.1.1, this.1, this.2, hk.1.2⟩
  · cases h
theorem kind_parts {u : List Int → Msg × Int} {m : Msg} (h : kindB u m = true) : okN m.part ∧ okN m.parts := by
  have pl : plainB m = true → okN m.part ∧ okN m.parts := fun h => by unfold plainB at h; unfold okN; simp at h; omega
  unfold kindB at h
  repeat' split at h
  · unfold textB at h; unfold okN; simp at h; omega
  · unfold emptyB at h; simp only [Bool.and_eq_true] at h; exact pl h.1
  · unfold wantB emptyB at h; simp only [Bool.and_eq_true] at h; exact pl h.1.1
  · unfold chartB at h; simp only [Bool.and_eq_true] at h; exact pl h.1.1
  · unfold oldB at h; simp only [Bool.and_eq_true] at h; exact pl h.1
  · cases h
theorem msgNums_ok {m : Msg} (h : check m = 0) : ∀ x ∈ msgNums m, okN x := by
  obtain ⟨h1, h2⟩ := check_ok h
  unfold mayB at h2
  simp only [withinB_iff, Bool.and_eq_true, decide_eq_true_eq] at h2
  obtain ⟨⟨⟨⟨⟨⟨h3, h4⟩, h5⟩, h6⟩, h7⟩, h8⟩, h9⟩ := h2
  have hk := key_ok h8
  have hp := kind_parts h9
  have hs : okN (b2i m.safe) := by unfold okN b2i; split <;> omega
  intro x hx
  simp only [msgNums, List.mem_cons, List.not_mem_nil, or_false] at hx
  rcases hx with rfl | rfl | rfl | rfl | rfl | rfl | rfl | rfl | rfl | rfl | rfl | rfl
  · unfold okN; omega
  · unfold okN; omega
  · exact h5
  · exact h6
  · exact hp.1
  · exact hp.2
  · unfold okN; omega
  · exact hs
  · exact hk.1
  · exact hk.2.1
  · exact hk.2.2.1
  · exact hk.2.2.2
theorem bytesM_len (m : Msg) : (bytesM m).length ≤ 117 + m.body.length := by
  have h1 := encs_len (msgNums m)
  have h2 : (enc m.body.length).length ≤ 9 := encF_len 8 _
  have h3 : (msgNums m).length = 12 := rfl
  simp only [bytesM, List.length_append]; omega

end Go.Proofs.Ytphcnaafhcfakaa
