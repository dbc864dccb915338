/-
  Small functions over bytes: EqBytes, CopyBytes, Clone.
-/
import Derived.Test.YtomlgnncncjmaaaTys
-- all by hand
namespace Go.Proofs.Ytomlgnncncjmaaa
open Go.Hb
attribute [local irreducible] LR CW At Ev thn blk finK noG again CallsTo
set_option linter.unusedSimpArgs false
set_option linter.unusedVariables false
set_option maxRecDepth 100000

theorem take_succ_eq {la lb : List Int} {i : Nat} (h1 : i < la.length) (h2 : i < lb.length) (h : la.take i = lb.take i) (he : la[i] = lb[i]) : la.take (i + 1) = lb.take (i + 1) := by
  rw [List.take_succ_eq_append_getElem h1, List.take_succ_eq_append_getElem h2, h, he]

theorem c19 (a b : Option Addr) (ca cb : Nat) (la lb : List Int) (w : World) (ha : Rd w a (bv la)) (hb : Rd w b (bv lb)) (hm : la.length ≤ 281474976710656) :
    CallsTo Try.prog 19 [.slice a la.length ca, .slice b lb.length cb] w fun v w' => v = .bool (decide (la = lb)) ∧ Grew w w' := by
  refine go_in (n := 26) (St.rd2 ha hb) Try.func19 rfl rfl ?_
  repeat' (
    first
    | (
      first
      | (apply kp; iterate 2 exact rfl)
      | apply ja | apply jb | apply jg | apply jj | (apply je; exact rfl) | (apply jf; exact rfl) | apply jd | apply jh | apply ji | (apply jc; kernel_rfl) | apply jk | apply jl | apply jm | apply jn | apply jo | (apply jp; exact rfl) | apply jq | apply jr | apply js | apply jt | apply ju | apply jv | apply jw | apply kN | apply kM
      | (apply kf; iterate 2 exact rfl)
      | (apply ko; (· exact rfl); (· repeat (first | exact mH _ _ | apply mT)); iterate 2 exact rfl)
      | (apply ka; (· exact rfl); (· repeat (first | exact mH _ _ | apply mT)); iterate 2 exact rfl)
      | (apply kr; (· exact rfl); (· repeat (first | exact mH _ _ | apply mT)); iterate 3 exact rfl)
      | (apply ks; (· exact rfl); (· repeat (first | exact mH _ _ | apply mT)); iterate 2 exact rfl)
      | (apply kn; iterate 2 exact rfl)
      | (apply ke; iterate 2 exact rfl)
      | (apply kx; iterate 2 exact rfl)
      | (apply kc; iterate 2 exact rfl)
      | (apply kb; iterate 2 exact rfl)
      | (apply kg; iterate 2 exact rfl)
      | (apply kG; iterate 3 exact rfl)
      | (apply kB; (iterate 2 exact rfl); intro _)
      | (apply kA; exact rfl; intro _)
      | (apply kL; (iterate 3 exact rfl); (· repeat (first | exact BS.nil _ | (apply BS.int; exact rfl) | (apply BS.ptr; exact rfl) | (apply BS.slice; exact rfl) | (apply BS.agg; iterate 2 exact rfl))); intro _)
      | (apply kT; (iterate 2 exact rfl); (· repeat (first | exact sH _ _ _ | apply sT)); iterate 2 exact rfl)
      | (apply kS; (iterate 2 exact rfl); (· repeat (first | exact sH _ _ _ | apply sT)); exact rfl)
      | (apply kh; (iterate 2 exact rfl); (first | decide | omega); exact rfl)
      | (apply kl; (iterate 2 exact rfl); (first | decide | omega); exact rfl)
      )
    | ((first | (apply kR; (· exact rfl); (· exact rfl)) | (apply kQ; (· exact rfl))); all_goals (intro hc; try simp only [decide_eq_true_eq, decide_eq_false_iff_not, Bool.not_eq_true', Bool.not_eq_false', Bool.not_eq_true, Bool.not_eq_false, Bool.not_true, Bool.not_false, Int.not_lt, Int.not_le, List.cons.injEq, and_true, beq_iff_eq, beq_eq_false_iff_ne] at hc; try (exfalso; first | contradiction | omega)))
    )
  · (apply ret1; (· exact rfl); intro w' hS)
    refine ⟨congrArg Value.bool ?_, hS.toKeep⟩
    have : la ≠ lb := fun e => by subst e; simp at hc
    simp [this]
  · apply CW.loop [4, 5, 11, 12, 13, 14, 15, 16, 17, 18, 19, 20, 21, 22, 23, 24, 25] (fun i : Nat => i ≤ la.length ∧ la.take i = lb.take i) (fun i : Nat => [(5, Value.int .i64 i)]) (fun i => St w NoF [rdA a (bv la), rdA b (bv lb)]) (fun i => la.length - i)
    · exact fun w' hw' => ⟨0, ⟨by omega, by simp⟩, ⟨rfl, trivial⟩, hw'⟩
    intro i g ⟨hi, heq⟩
    by_cases hlt : i < la.length
    · obtain ⟨ba, oa, rfl⟩ := ha.form (fun e => by have := congrArg List.length e; simp at this; subst this; simp at hlt)
      obtain ⟨bb, ob, rfl⟩ := hb.form (fun e => by have := congrArg List.length e; simp at this; subst this; simp at hc; simp [hc] at hlt)
      have hlb : i < lb.length := by omega
      repeat' (
        first
        | (
          first
          | (apply kp; iterate 2 exact rfl)
          | apply ja | apply jb | apply jg | apply jj | (apply je; exact rfl) | (apply jf; exact rfl) | apply jd | apply jh | apply ji | (apply jc; kernel_rfl) | apply jk | apply jl | apply jm | apply jn | apply jo | (apply jp; exact rfl) | apply jq | apply jr | apply js | apply jt | apply ju | apply jv | apply jw | apply kN | apply kM
          | (apply kf; iterate 2 exact rfl)
          | (apply ko; (· exact rfl); (· repeat (first | exact mH _ _ | apply mT)); iterate 2 exact rfl)
          | (apply ka; (· exact rfl); (· repeat (first | exact mH _ _ | apply mT)); iterate 2 exact rfl)
          | (apply kr; (· exact rfl); (· repeat (first | exact mH _ _ | apply mT)); iterate 3 exact rfl)
          | (apply ks; (· exact rfl); (· repeat (first | exact mH _ _ | apply mT)); iterate 2 exact rfl)
          | (apply kn; iterate 2 exact rfl)
          | (apply ke; iterate 2 exact rfl)
          | (apply kx; iterate 2 exact rfl)
          | (apply kc; iterate 2 exact rfl)
          | (apply kb; iterate 2 exact rfl)
          | (apply kg; iterate 2 exact rfl)
          | (apply kG; iterate 3 exact rfl)
          | (apply kB; (iterate 2 exact rfl); intro _)
          | (apply kA; exact rfl; intro _)
          | (apply kL; (iterate 3 exact rfl); (· repeat (first | exact BS.nil _ | (apply BS.int; exact rfl) | (apply BS.ptr; exact rfl) | (apply BS.slice; exact rfl) | (apply BS.agg; iterate 2 exact rfl))); intro _)
          | (apply kT; (iterate 2 exact rfl); (· repeat (first | exact sH _ _ _ | apply sT)); iterate 2 exact rfl)
          | (apply kS; (iterate 2 exact rfl); (· repeat (first | exact sH _ _ _ | apply sT)); exact rfl)
          | (apply kh; (iterate 2 exact rfl); (first | decide | omega); exact rfl)
          | (apply kl; (iterate 2 exact rfl); (first | decide | omega); exact rfl)
          )
        | (apply LR.ev; (· apply Ev.indexAddr; (· exact rfl); (· exact rfl); (· first | omega | (dsimp only; omega)); (· first | omega | (dsimp only; omega))); (· exact rfl))
        | (apply LR.ev; (· apply Ev.load_rd; (· exact rfl); (· repeat (first | exact mH _ _ | apply mT)); (· exact bv_at (i := i) (by simp) (by omega))); (· exact rfl))
        | (apply LR.ev; (· apply Ev.add; (· exact rfl); (· exact rfl); (· first | omega | (dsimp only; omega)); (· first | omega | (dsimp only; omega))); (· exact rfl))
        | ((first | (apply kR; (· exact rfl); (· exact rfl)) | (apply kQ; (· exact rfl))); all_goals (intro hc; try simp only [decide_eq_true_eq, decide_eq_false_iff_not, Bool.not_eq_true', Bool.not_eq_false', Bool.not_eq_true, Bool.not_eq_false, Bool.not_true, Bool.not_false, Int.not_lt, Int.not_le, List.cons.injEq, and_true, beq_iff_eq, beq_eq_false_iff_ne] at hc; try (exfalso; first | contradiction | omega)))
        )
      · (apply ret1; (· exact rfl); intro w' hS)
        refine ⟨congrArg Value.bool ?_, hS.toKeep⟩
        have : la ≠ lb := fun e => by subst e; simp_all
        simp [this]
      · apply At.again (i + 1) ⟨by omega, take_succ_eq hlt hlb heq (by simpa using ‹_›)⟩
        · (repeat (first | exact Out.refl _ _ | exact Out.mix | (apply Out.upd; (· exact rfl)) | (apply Out.updL; (· exact rfl)) | (apply Out.mixs; (· exact rfl))))
        · exact ⟨rfl, trivial⟩
        · exact fun w' hw' => hw'
        · omega
    · repeat' (
        first
        | (
          first
          | (apply kp; iterate 2 exact rfl)
          | apply ja | apply jb | apply jg | apply jj | (apply je; exact rfl) | (apply jf; exact rfl) | apply jd | apply jh | apply ji | (apply jc; kernel_rfl) | apply jk | apply jl | apply jm | apply jn | apply jo | (apply jp; exact rfl) | apply jq | apply jr | apply js | apply jt | apply ju | apply jv | apply jw | apply kN | apply kM
          | (apply kf; iterate 2 exact rfl)
          | (apply ko; (· exact rfl); (· repeat (first | exact mH _ _ | apply mT)); iterate 2 exact rfl)
          | (apply ka; (· exact rfl); (· repeat (first | exact mH _ _ | apply mT)); iterate 2 exact rfl)
          | (apply kr; (· exact rfl); (· repeat (first | exact mH _ _ | apply mT)); iterate 3 exact rfl)
          | (apply ks; (· exact rfl); (· repeat (first | exact mH _ _ | apply mT)); iterate 2 exact rfl)
          | (apply kn; iterate 2 exact rfl)
          | (apply ke; iterate 2 exact rfl)
          | (apply kx; iterate 2 exact rfl)
          | (apply kc; iterate 2 exact rfl)
          | (apply kb; iterate 2 exact rfl)
          | (apply kg; iterate 2 exact rfl)
          | (apply kG; iterate 3 exact rfl)
          | (apply kB; (iterate 2 exact rfl); intro _)
          | (apply kA; exact rfl; intro _)
          | (apply kL; (iterate 3 exact rfl); (· repeat (first | exact BS.nil _ | (apply BS.int; exact rfl) | (apply BS.ptr; exact rfl) | (apply BS.slice; exact rfl) | (apply BS.agg; iterate 2 exact rfl))); intro _)
          | (apply kT; (iterate 2 exact rfl); (· repeat (first | exact sH _ _ _ | apply sT)); iterate 2 exact rfl)
          | (apply kS; (iterate 2 exact rfl); (· repeat (first | exact sH _ _ _ | apply sT)); exact rfl)
          | (apply kh; (iterate 2 exact rfl); (first | decide | omega); exact rfl)
          | (apply kl; (iterate 2 exact rfl); (first | decide | omega); exact rfl)
          )
        | ((first | (apply kR; (· exact rfl); (· exact rfl)) | (apply kQ; (· exact rfl))); all_goals (intro hc; try simp only [decide_eq_true_eq, decide_eq_false_iff_not, Bool.not_eq_true', Bool.not_eq_false', Bool.not_eq_true, Bool.not_eq_false, Bool.not_true, Bool.not_false, Int.not_lt, Int.not_le, List.cons.injEq, and_true, beq_iff_eq, beq_eq_false_iff_ne] at hc; try (exfalso; first | contradiction | omega)))
        )
      (apply ret1; (· exact rfl); intro w' hS)
      refine ⟨congrArg Value.bool ?_, hS.toKeep⟩
      have e1 : la.take i = la := List.take_of_length_le (by omega)
      have e2 : lb.take i = lb := List.take_of_length_le (by omega)
      rw [e1, e2] at heq
      simp [heq]
end Go.Proofs.Ytomlgnncncjmaaa
