/-
  The laws that a message comes back, and that its bytes are the only ones.
-/
import Derived.Test.YtphcnaafhcfakaaA27
-- all by hand
namespace Go.Proofs.Ytphcnaafhcfakaa
open Go.Hb
attribute [local irreducible] LR CW At Ev thn blk finK noG again CallsTo DW QL dnext
set_option linter.unusedSimpArgs false
set_option linter.unusedVariables false
set_option maxRecDepth 100000

theorem pack_ok {m : Msg} (h : (pack m).2 = 0) : check m = 0 ∧ pack m = (bytesM m, 0) := by
  unfold pack at h ⊢
  split
  · rename_i hc; rw [if_pos hc] at h; exact absurd h hc
  · rename_i hc; exact ⟨by simpa using hc, rfl⟩
theorem pack_bad {m : Msg} (h : ¬ (pack m).2 = 0) : pack m = ([], check m) := by
  unfold pack at h ⊢
  split
  · rfl
  · rename_i hc; rw [if_neg hc] at h; exact absurd rfl h
theorem encF_byt : ∀ (m y : Nat), y < 128 ^ (m + 1) → Byt (encF m y)
  | 0, y, h => fun b hb => by simp [encF] at hb h; omega
  | m + 1, y, h => by
    rw [encF]
    split
    · intro b hb; simp at hb; omega
    · intro b hb
      rcases List.mem_cons.1 hb with rfl | hb
      · omega
      · exact encF_byt m (y / 128) (by rw [Nat.pow_succ] at h; omega) b hb
theorem enc_byt {x : Nat} (h : x ≤ 9007199254740991) : Byt (enc x) := encF_byt 8 x (by have : (128 : Nat) ^ 9 = 9223372036854775808 := by decide
                                                                                       omega)
theorem Byt.append {l r : List Int} (h : Byt l) (h' : Byt r) : Byt (l ++ r) := fun b hb => by
  rcases List.mem_append.1 hb with hb | hb
  · exact h b hb
  · exact h' b hb
theorem encs_byt {xs : List Int} (h : ∀ x ∈ xs, okN x) : Byt (encs xs) := by
  intro b hb
  obtain ⟨x, hx, hb⟩ := List.mem_flatMap.1 hb
  have := h x hx
  unfold okN at this
  exact enc_byt (by omega) b hb
theorem Byt.bytes {m : Msg} (hb : Byt m.body) (h : check m = 0) : Byt (bytesM m) :=
  ((encs_byt (msgNums_ok h)).append (enc_byt (by have := (check_ok h).1; omega))).append hb

theorem places_bad {l : List Int} (h : ¬ (places l).2 = 0) : (places l).1 = [] := by
  unfold places at h ⊢
  split
  · rfl
  · rename_i h0
    rw [if_neg h0] at h
    split
    · rfl
    · rename_i h1
      rw [if_neg h1] at h
      split
      · rfl
      · rename_i h2
        rw [if_neg h2] at h
        split
        · rfl
        · rename_i h3
          rw [if_neg h3] at h
          exact absurd rfl h
theorem rows_i64 : ∀ (n : Nat) (l : List Int), plcsI (rows n l).1
  | 0, l => fun p hp => by simp [rows] at hp
  | n + 1, l => by
    rw [rows]
    split
    · intro p hp; simp at hp
    · intro p hp
      rcases List.mem_cons.1 hp with rfl | hp
      · exact plcOf_i64 (decs_bound 4 l)
      · exact rows_i64 n _ p hp
theorem places_i64 (l : List Int) : plcsI (places l).1 := by
  have z : plcsI [] := fun p hp => by simp at hp
  unfold places
  split
  · exact z
  · split
    · exact z
    · split
      · exact z
      · split
        · exact z
        · exact rows_i64 _ _

end Go.Proofs.Ytphcnaafhcfakaa
