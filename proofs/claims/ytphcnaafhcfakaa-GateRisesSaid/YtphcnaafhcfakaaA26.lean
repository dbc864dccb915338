/-
  The law of unpacking.
-/
import Derived.Test.YtphcnaafhcfakaaA25
-- all by hand
namespace Go.Proofs.Ytphcnaafhcfakaa
open Go.Hb
attribute [local irreducible] LR CW At Ev thn blk finK noG again CallsTo DW QL dnext
set_option linter.unusedSimpArgs false
set_option linter.unusedVariables false
set_option maxRecDepth 100000

theorem unpackW_body (ck : Msg → Int) (l : List Int) : (unpackW ck l).1.body.length ≤ l.length ∧ ∀ b ∈ (unpackW ck l).1.body, b ∈ l := by
  have z : zeroMsg.body.length ≤ l.length ∧ ∀ b ∈ zeroMsg.body, b ∈ l := ⟨by simp [zeroMsg], fun b hb => by simp [zeroMsg] at hb⟩
  unfold unpackW
  split
  · exact z
  · split
    · exact z
    · split
      · exact z
      · split
        · exact z
        · split
          · exact z
          · rename_i h8 h1 h4 ho hc
            have hof := octs_facts (most := 160) (l := (decs 4 (decs 8 l).2.2).2.2) (by simpa using ho)
            have hrl : (decs 4 (decs 8 l).2.2).2.2.length ≤ l.length := Nat.le_trans (decs_rest_len 4 _) (decs_rest_len 8 l)
            refine ⟨by simp only [msgOf]; omega, fun b hb => ?_⟩
            have h2 := hof.2 b hb
            obtain ⟨k, hk⟩ := decs_rest 4 (decs 8 l).2.2
            obtain ⟨k', hk'⟩ := decs_rest 8 l
            rw [hk, hk'] at h2
            exact List.mem_of_mem_drop (List.mem_of_mem_drop h2)
theorem unpack_body (l : List Int) : (unpack l).1.body.length ≤ l.length ∧ ∀ b ∈ (unpack l).1.body, b ∈ l := by
  rw [unpack_eq]; exact unpackW_body _ _
theorem rows_len : ∀ n l, (rows n l).1.length ≤ n
  | 0, l => by simp [rows]
  | n + 1, l => by
    rw [rows]
    split
    · simp
    · have := rows_len n (decs 4 l).2.2
      simp; omega
theorem places_len (l : List Int) : (places l).1.length ≤ 4 := by
  unfold places
  split
  · simp
  · split
    · simp
    · split
      · simp
      · split
        · simp
        · have := rows_len (dec l).1 (l.drop (dec l).2.1)
          simp only at this ⊢; omega

end Go.Proofs.Ytphcnaafhcfakaa
