/-
  The law that data sent again are what they were.
-/
import Derived.Test.YtomlgnncncjmaaaA29
-- all by hand
namespace Go.Proofs.Ytomlgnncncjmaaa
open Go.Hb Go.ChangeShapes Go.WideShapes
attribute [local irreducible] LR CW At Ev thn blk finK noG again CallsTo DW QL dnext TW
set_option linter.unusedSimpArgs false
set_option linter.unusedVariables false
set_option maxRecDepth 100000

theorem c31w (i n : Int) (w : World) (hn : n ≤ 9223372036854775807) : CallsTo Try.prog 31 [.int .i64 i, .int .i64 n] w fun v w' => v = .int .i64 (bring i n) ∧ w' = w := by
  refine go_eq (n := 16) Try.func31 rfl rfl ?_
  by_cases h : n ≤ 0
  · repeat' (
      first
      | (
        first
        | (apply kp; iterate 2 exact rfl)
        | apply ja | apply jb | apply jg | apply jj | (apply je; exact rfl) | (apply jf; exact rfl) | apply jd | apply jh | apply ji | (apply jc; kernel_rfl) | apply jk | apply jl | apply jm | apply jn | apply jo | (apply jp; exact rfl) | apply jq | apply jr | apply js | apply jt | apply ju | apply jv | apply jw | apply kN | apply kM
        | (apply kf; iterate 2 exact rfl)
        | (apply ko; (· exact rfl); (· repeat (first | exact mH _ _ | apply mT)); iterate 2 exact rfl)
        | (apply ka; (· exact rfl); (· repeat (first | exact mH _ _ | apply mT)); iterate 2 exact rfl)
        | (apply kr; (· exact rfl); (· repeat (first | exact mH _ _ | apply mT)); iterate 3 exact rfl)
        | (apply ks; (· exact rfl); (· repeat (first | exact mH _ _ | apply mT)); iterate 2 exact rfl)
        | (apply kn; iterate 2 exact rfl)
        | (apply ke; iterate 2 exact rfl)
        | (apply kx; iterate 2 exact rfl)
        | (apply kc; iterate 2 exact rfl)
        | (apply kb; iterate 2 exact rfl)
        | (apply kg; iterate 2 exact rfl)
        | (apply kG; iterate 3 exact rfl)
        | (apply kB; (iterate 2 exact rfl); intro _)
        | (apply kA; exact rfl; intro _)
        | (apply kL; (iterate 3 exact rfl); (· repeat (first | exact BS.nil _ | (apply BS.int; exact rfl) | (apply BS.ptr; exact rfl) | (apply BS.slice; exact rfl) | (apply BS.agg; iterate 2 exact rfl))); intro _)
        | (apply kT; (iterate 2 exact rfl); (· repeat (first | exact sH _ _ _ | apply sT)); iterate 2 exact rfl)
        | (apply kS; (iterate 2 exact rfl); (· repeat (first | exact sH _ _ _ | apply sT)); exact rfl)
        | (apply kh; (iterate 2 exact rfl); (first | decide | omega); exact rfl)
        | (apply kl; (iterate 2 exact rfl); (first | decide | omega); exact rfl)
        )
      | ((first | (apply kR; (· exact rfl); (· exact rfl)) | (apply kQ; (· exact rfl))); all_goals (intro hc; try simp only [decide_eq_true_eq, decide_eq_false_iff_not, Bool.not_eq_true', Bool.not_eq_false', Bool.not_eq_true, Bool.not_eq_false, Bool.not_true, Bool.not_false, Int.not_lt, Int.not_le, List.cons.injEq, and_true, beq_iff_eq, beq_eq_false_iff_ne] at hc; try (exfalso; first | contradiction | omega)))
      )
    (apply ret1; (· exact rfl); intro w' hS)
    exact ⟨congrArg (Value.int .i64) (by unfold bring; rw [if_pos h]), hS⟩
  · have hb := tmod_bd i n (by omega)
    repeat' (
      first
      | (
        first
        | (apply kp; iterate 2 exact rfl)
        | apply ja | apply jb | apply jg | apply jj | (apply je; exact rfl) | (apply jf; exact rfl) | apply jd | apply jh | apply ji | (apply jc; kernel_rfl) | apply jk | apply jl | apply jm | apply jn | apply jo | (apply jp; exact rfl) | apply jq | apply jr | apply js | apply jt | apply ju | apply jv | apply jw | apply kN | apply kM
        | (apply kf; iterate 2 exact rfl)
        | (apply ko; (· exact rfl); (· repeat (first | exact mH _ _ | apply mT)); iterate 2 exact rfl)
        | (apply ka; (· exact rfl); (· repeat (first | exact mH _ _ | apply mT)); iterate 2 exact rfl)
        | (apply kr; (· exact rfl); (· repeat (first | exact mH _ _ | apply mT)); iterate 3 exact rfl)
        | (apply ks; (· exact rfl); (· repeat (first | exact mH _ _ | apply mT)); iterate 2 exact rfl)
        | (apply kn; iterate 2 exact rfl)
        | (apply ke; iterate 2 exact rfl)
        | (apply kx; iterate 2 exact rfl)
        | (apply kc; iterate 2 exact rfl)
        | (apply kb; iterate 2 exact rfl)
        | (apply kg; iterate 2 exact rfl)
        | (apply kG; iterate 3 exact rfl)
        | (apply kB; (iterate 2 exact rfl); intro _)
        | (apply kA; exact rfl; intro _)
        | (apply kL; (iterate 3 exact rfl); (· repeat (first | exact BS.nil _ | (apply BS.int; exact rfl) | (apply BS.ptr; exact rfl) | (apply BS.slice; exact rfl) | (apply BS.agg; iterate 2 exact rfl))); intro _)
        | (apply kT; (iterate 2 exact rfl); (· repeat (first | exact sH _ _ _ | apply sT)); iterate 2 exact rfl)
        | (apply kS; (iterate 2 exact rfl); (· repeat (first | exact sH _ _ _ | apply sT)); exact rfl)
        | (apply kh; (iterate 2 exact rfl); (first | decide | omega); exact rfl)
        | (apply kl; (iterate 2 exact rfl); (first | decide | omega); exact rfl)
        )
      | (apply LR.ev; (· apply Ev.rem; (· exact rfl); (· exact rfl); (· first | decide | omega)); (· exact rfl))
      | (apply LR.ev; (· apply Ev.add; (· exact rfl); (· exact rfl); (· first | omega | (dsimp only; omega)); (· first | omega | (dsimp only; omega))); (· exact rfl))
      | ((first | (apply kR; (· exact rfl); (· exact rfl)) | (apply kQ; (· exact rfl))); all_goals (intro hc; try simp only [decide_eq_true_eq, decide_eq_false_iff_not, Bool.not_eq_true', Bool.not_eq_false', Bool.not_eq_true, Bool.not_eq_false, Bool.not_true, Bool.not_false, Int.not_lt, Int.not_le, List.cons.injEq, and_true, beq_iff_eq, beq_eq_false_iff_ne] at hc; try (exfalso; first | contradiction | omega)))
      )
    all_goals (
      (apply ret1; (· exact rfl); intro w' hS)
      refine ⟨congrArg (Value.int .i64) ?_, hS⟩
      unfold bring; rw [if_neg h]
      first | rw [if_pos (by omega)] | rw [if_neg (by omega)])

/-- How many bytes a number has. -/
theorem encF_lenle : ∀ (k m y : Nat), y < 128 ^ (k + 1) → (encF m y).length ≤ k + 1
  | k, 0, y, _ => by simp [encF]
  | 0, m + 1, y, h => by rw [encF_small _ _ (by omega)]; simp
  | k + 1, m + 1, y, h => by
    rw [encF]
    split
    · simp
    · have := encF_lenle k m (y / 128) (by rw [Nat.pow_succ] at h; omega)
      simp; omega
theorem enc_len1 {x : Nat} (h : x < 128) : (enc x).length ≤ 1 := encF_lenle 0 8 x (by omega)
theorem enc_len2 {x : Nat} (h : x < 16384) : (enc x).length ≤ 2 := encF_lenle 1 8 x (by omega)
theorem enc_len8 {x : Nat} (h : x ≤ 9007199254740991) : (enc x).length ≤ 8 := by
  have h8 : (128 : Nat) ^ 8 = 72057594037927936 := by decide
  exact encF_lenle 7 8 x (by omega)
theorem plcs_room {ps : List Plc} (h : ∀ p ∈ ps, plcB p = true) : (ps.flatMap fun p => encs (plcNums p)).length ≤ 12 * ps.length := by
  induction ps with
  | nil => simp
  | cons p r ih =>
    have ih := ih fun q hq => h q (List.mem_cons_of_mem _ hq)
    have hp := h p List.mem_cons_self
    unfold plcB at hp
    simp only [decide_eq_true_eq] at hp
    have e1 : (enc p.ring.toNat).length ≤ 1 := enc_len1 (by omega)
    have e2 : (enc p.seq.toNat).length ≤ 8 := enc_len8 (by omega)
    have e3 : (enc p.rep.toNat).length ≤ 1 := enc_len1 (by omega)
    have e4 : (enc p.members.toNat).length ≤ 2 := enc_len2 (by omega)
    simp only [List.flatMap_cons, List.length_append, encs, plcNums, List.flatMap_nil, List.append_nil, List.length_cons] at ih ⊢
    omega
theorem room {m : Msg} (hb : Byt m.body) (h : check m = 0) (hk : m.kind ≠ 5) : (bytesM m).length ≤ 160 := by
  obtain ⟨h1, h2⟩ := check_ok h
  have hok := msgNums_ok h
  unfold mayB at h2
  simp only [withinB_iff, Bool.and_eq_true, decide_eq_true_eq] at h2
  obtain ⟨⟨⟨⟨⟨⟨h3, h4⟩, h5⟩, h6⟩, h7⟩, h8⟩, h9⟩ := h2
  have hkey : ringB m.rseq m.rrep = true := by
    unfold keyE keyB at h8
    split at h8
    · rename_i hh; simp only [Bool.and_eq_true] at hh; exact hh.2
    · cases h8
  have hrep : 0 ≤ m.rrep ∧ m.rrep ≤ 8 := by unfold ringB at hkey; rw [numB_iff] at hkey; simp at hkey; omega
  have hparts : 0 ≤ m.part ∧ m.part ≤ 5 ∧ 0 ≤ m.parts ∧ m.parts ≤ 5 ∧ m.body.length ≤ 49 := by
    have pl : plainB m = true → m.part = 0 ∧ m.parts = 0 := fun h => by unfold plainB at h; simp at h; omega
    unfold kindB at h9
    repeat' split at h9
    · unfold textB at h9; simp at h9; omega
    · unfold emptyB at h9; simp only [Bool.and_eq_true, decide_eq_true_eq] at h9; have := pl h9.1; omega
    · unfold wantB emptyB at h9; simp only [Bool.and_eq_true, decide_eq_true_eq] at h9; have := pl h9.1.1; omega
    · unfold chartB at h9; simp only [Bool.and_eq_true, decide_eq_true_eq] at h9
      have := pl h9.1.1
      have hc := places_canon hb h9.2
      have h0 : (charts (places m.body).1).2 = 0 := by rw [hc]
      obtain ⟨c1, c2, c3⟩ := charts_ok h0
      rw [hc] at c3
      have hl : m.body = plcsBytes (places m.body).1 := congrArg Prod.fst c3
      have hr := plcs_room c2
      have he : (enc (places m.body).1.length).length ≤ 1 := enc_len1 (by omega)
      have : m.body.length = (enc (places m.body).1.length).length + ((places m.body).1.flatMap fun p => encs (plcNums p)).length := by
        conv => lhs; rw [hl]
        simp [plcsBytes]
      omega
    · cases h9
  have n0 := hok m.kind (by simp [msgNums])
  have okl : ∀ x ∈ msgNums m, (enc x.toNat).length ≤ 8 := fun x hx => enc_len8 (by have := hok x hx; unfold okN at this; omega)
  have e0 : (enc m.kind.toNat).length ≤ 1 := enc_len1 (by omega)
  have e1 : (enc m.origin.toNat).length ≤ 1 := enc_len1 (by omega)
  have e2 := okl m.life (by simp [msgNums])
  have e3 := okl m.id (by simp [msgNums])
  have e4 : (enc m.part.toNat).length ≤ 1 := enc_len1 (by omega)
  have e5 : (enc m.parts.toNat).length ≤ 1 := enc_len1 (by omega)
  have e6 : (enc m.groups.toNat).length ≤ 2 := enc_len2 (by omega)
  have e7 : (enc (b2i m.safe).toNat).length ≤ 1 := enc_len1 (by unfold b2i; split <;> simp)
  have e8 := okl m.stamp (by simp [msgNums])
  have e9 := okl m.rseq (by simp [msgNums])
  have e10 : (enc m.rrep.toNat).length ≤ 1 := enc_len1 (by omega)
  have e11 := okl m.kseq (by simp [msgNums])
  have e12 : (enc m.body.length).length ≤ 1 := enc_len1 (by omega)
  simp only [bytesM, encs, msgNums, List.flatMap_cons, List.flatMap_nil, List.append_nil, List.length_append]
  omega
theorem check_oldM {d : Dat} (hm : mayOld d = true) (hb : Byt d.msg.body) (hc : check d.msg = 0) (hk : d.msg.kind ≠ 5) : check (oldM d) = 0 := by
  unfold mayOld at hm
  simp only [decide_eq_true_eq] at hm
  obtain ⟨m1, m2, m3, m4, m5, m6, m7, m8⟩ := hm
  have hr := room hb hc hk
  have hu := unpack_bytes hc
  have hring : ringB d.rseq d.rrep = true := by unfold ringE at m2; split at m2; (· assumption); (· cases m2)
  unfold check checkM
  rw [if_neg (by show ¬ 160 < (bytesM d.msg).length; omega)]
  rw [if_pos ?_]
  unfold mayB
  simp only [withinB_iff, Bool.and_eq_true, decide_eq_true_eq]
  refine ⟨⟨⟨⟨⟨⟨by simp [oldM], by simp [oldM]; omega⟩, by simp [oldM]⟩, by simp [oldM]; omega⟩, by simp [oldM]⟩, ?_⟩, ?_⟩
  · unfold keyE keyB
    rw [if_pos]
    simp only [oldM, numB_iff, hring, Bool.and_true, Bool.and_eq_true, decide_eq_true_eq]
    omega
  · unfold kindB oldB plainB
    simp only [oldM, hu]
    simp [hk]
    refine ⟨by omega, by omega, ?_, by omega⟩
    omega
end Go.Proofs.Ytomlgnncncjmaaa
