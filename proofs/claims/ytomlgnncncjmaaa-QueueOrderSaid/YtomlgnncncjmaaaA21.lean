/-
  The chapter's messages are packed and unpacked as it says (awake).
-/
import Derived.Test.YtomlgnncncjmaaaA20
-- all by hand
namespace Go.Proofs.Ytomlgnncncjmaaa
open Go.Hb
attribute [local irreducible] LR CW At Ev thn blk finK noG again CallsTo DW QL dnext
set_option linter.unusedSimpArgs false
set_option linter.unusedVariables false
set_option maxRecDepth 100000

def markedM : Msg := ⟨2, 3, 0, 0, 0, 0, 0, false, 5, 2, 1, 7, []⟩
def textM : Msg := ⟨1, 1, 9, 2, 0, 1, 130, true, 0, 0, 0, 0, [65]⟩
theorem p_marked : pack markedM = ([2, 3, 0, 0, 0, 0, 0, 0, 5, 2, 1, 7, 0], 0) := by kernel_rfl
theorem p_text : pack textM = ([1, 1, 9, 2, 0, 1, 130, 1, 1, 0, 0, 0, 0, 1, 65], 0) := by kernel_rfl
theorem u_text : unpack [1, 1, 9, 2, 0, 1, 130, 1, 1, 0, 0, 0, 0, 1, 65] = (textM, 0) := by kernel_rfl

set_option maxHeartbeats 4000000 in
theorem c21 (w : World) : CallsTo Try.prog 21 [] w fun v w' => v = .bool true ∧ Grew w w' := by
  refine go_in (n := 47) (St.refl _ NoF) Try.func21 rfl rfl ?_
  repeat' (
    first
    | (
      first
      | (apply kp; iterate 2 exact rfl)
      | apply ja | apply jb | apply jg | apply jj | (apply je; exact rfl) | (apply jf; exact rfl) | apply jd | apply jh | apply ji | (apply jc; kernel_rfl) | apply jk | apply jl | apply jm | apply jn | apply jo | (apply jp; exact rfl) | apply jq | apply jr | apply js | apply jt | apply ju | apply jv | apply jw | apply kN | apply kM
      | (apply kf; iterate 2 exact rfl)
      | (apply ko; (· exact rfl); (· repeat (first | exact mH _ _ | apply mT)); iterate 2 exact rfl)
      | (apply ka; (· exact rfl); (· repeat (first | exact mH _ _ | apply mT)); iterate 2 exact rfl)
      | (apply kr; (· exact rfl); (· repeat (first | exact mH _ _ | apply mT)); iterate 3 exact rfl)
      | (apply ks; (· exact rfl); (· repeat (first | exact mH _ _ | apply mT)); iterate 2 exact rfl)
      | (apply kn; iterate 2 exact rfl)
      | (apply ke; iterate 2 exact rfl)
      | (apply kx; iterate 2 exact rfl)
      | (apply kc; iterate 2 exact rfl)
      | (apply kb; iterate 2 exact rfl)
      | (apply kg; iterate 2 exact rfl)
      | (apply kG; iterate 3 exact rfl)
      | (apply kB; (iterate 2 exact rfl); intro _)
      | (apply kA; exact rfl; intro _)
      | (apply kL; (iterate 3 exact rfl); (· repeat (first | exact BS.nil _ | (apply BS.int; exact rfl) | (apply BS.ptr; exact rfl) | (apply BS.slice; exact rfl) | (apply BS.agg; iterate 2 exact rfl))); intro _)
      | (apply kT; (iterate 2 exact rfl); (· repeat (first | exact sH _ _ _ | apply sT)); iterate 2 exact rfl)
      | (apply kS; (iterate 2 exact rfl); (· repeat (first | exact sH _ _ _ | apply sT)); exact rfl)
      | (apply kh; (iterate 2 exact rfl); (first | decide | omega); exact rfl)
      | (apply kl; (iterate 2 exact rfl); (first | decide | omega); exact rfl)
      )
    | (apply LR.qcall; (· exact rfl); (· intro w1 h1; exact CallsTo.q (c36 w1) h1))
    | ((first | (apply kR; (· exact rfl); (· exact rfl)) | (apply kQ; (· exact rfl))); all_goals (intro hc; try simp only [decide_eq_true_eq, decide_eq_false_iff_not, Bool.not_eq_true', Bool.not_eq_false', Bool.not_eq_true, Bool.not_eq_false, Bool.not_true, Bool.not_false, Int.not_lt, Int.not_le, List.cons.injEq, and_true, beq_iff_eq, beq_eq_false_iff_ne] at hc; try (exfalso; first | contradiction | omega)))
    )
  apply LR.call
  · exact rfl
  intro w1 h1
  have h15 := c15 markedM none 0 w1 (Rd.nil _ _) (fun _ => rfl) (by simp [markedM]) (by simp [markedM, Byt])
  rw [p_marked] at h15
  refine h15.mono ?_
  rintro v w2 ⟨a1, c1, rfl, hn⟩
  refine LR.back (h1.newSl hn) ?_
  clear hn h1 h15
  repeat' (
    first
    | (
      first
      | (apply kp; iterate 2 exact rfl)
      | apply ja | apply jb | apply jg | apply jj | (apply je; exact rfl) | (apply jf; exact rfl) | apply jd | apply jh | apply ji | (apply jc; kernel_rfl) | apply jk | apply jl | apply jm | apply jn | apply jo | (apply jp; exact rfl) | apply jq | apply jr | apply js | apply jt | apply ju | apply jv | apply jw | apply kN | apply kM
      | (apply kf; iterate 2 exact rfl)
      | (apply ko; (· exact rfl); (· repeat (first | exact mH _ _ | apply mT)); iterate 2 exact rfl)
      | (apply ka; (· exact rfl); (· repeat (first | exact mH _ _ | apply mT)); iterate 2 exact rfl)
      | (apply kr; (· exact rfl); (· repeat (first | exact mH _ _ | apply mT)); iterate 3 exact rfl)
      | (apply ks; (· exact rfl); (· repeat (first | exact mH _ _ | apply mT)); iterate 2 exact rfl)
      | (apply kn; iterate 2 exact rfl)
      | (apply ke; iterate 2 exact rfl)
      | (apply kx; iterate 2 exact rfl)
      | (apply kc; iterate 2 exact rfl)
      | (apply kb; iterate 2 exact rfl)
      | (apply kg; iterate 2 exact rfl)
      | (apply kG; iterate 3 exact rfl)
      | (apply kB; (iterate 2 exact rfl); intro _)
      | (apply kA; exact rfl; intro _)
      | (apply kL; (iterate 3 exact rfl); (· repeat (first | exact BS.nil _ | (apply BS.int; exact rfl) | (apply BS.ptr; exact rfl) | (apply BS.slice; exact rfl) | (apply BS.agg; iterate 2 exact rfl))); intro _)
      | (apply kT; (iterate 2 exact rfl); (· repeat (first | exact sH _ _ _ | apply sT)); iterate 2 exact rfl)
      | (apply kS; (iterate 2 exact rfl); (· repeat (first | exact sH _ _ _ | apply sT)); exact rfl)
      | (apply kh; (iterate 2 exact rfl); (first | decide | omega); exact rfl)
      | (apply kl; (iterate 2 exact rfl); (first | decide | omega); exact rfl)
      )
    | ((first | (apply kR; (· exact rfl); (· exact rfl)) | (apply kQ; (· exact rfl))); all_goals (intro hc; try simp only [decide_eq_true_eq, decide_eq_false_iff_not, Bool.not_eq_true', Bool.not_eq_false', Bool.not_eq_true, Bool.not_eq_false, Bool.not_true, Bool.not_false, Int.not_lt, Int.not_le, List.cons.injEq, and_true, beq_iff_eq, beq_eq_false_iff_ne] at hc; try (exfalso; first | contradiction | omega)))
    )
  apply LR.call
  · exact rfl
  intro w1 h1
  refine (c37 w1).mono ?_
  rintro v w2 ⟨at_, ct, rfl, hn⟩
  refine LR.back (h1.newSl hn) ?_
  clear hn h1
  repeat' (
    first
    | (
      first
      | (apply kp; iterate 2 exact rfl)
      | apply ja | apply jb | apply jg | apply jj | (apply je; exact rfl) | (apply jf; exact rfl) | apply jd | apply jh | apply ji | (apply jc; kernel_rfl) | apply jk | apply jl | apply jm | apply jn | apply jo | (apply jp; exact rfl) | apply jq | apply jr | apply js | apply jt | apply ju | apply jv | apply jw | apply kN | apply kM
      | (apply kf; iterate 2 exact rfl)
      | (apply ko; (· exact rfl); (· repeat (first | exact mH _ _ | apply mT)); iterate 2 exact rfl)
      | (apply ka; (· exact rfl); (· repeat (first | exact mH _ _ | apply mT)); iterate 2 exact rfl)
      | (apply kr; (· exact rfl); (· repeat (first | exact mH _ _ | apply mT)); iterate 3 exact rfl)
      | (apply ks; (· exact rfl); (· repeat (first | exact mH _ _ | apply mT)); iterate 2 exact rfl)
      | (apply kn; iterate 2 exact rfl)
      | (apply ke; iterate 2 exact rfl)
      | (apply kx; iterate 2 exact rfl)
      | (apply kc; iterate 2 exact rfl)
      | (apply kb; iterate 2 exact rfl)
      | (apply kg; iterate 2 exact rfl)
      | (apply kG; iterate 3 exact rfl)
      | (apply kB; (iterate 2 exact rfl); intro _)
      | (apply kA; exact rfl; intro _)
      | (apply kL; (iterate 3 exact rfl); (· repeat (first | exact BS.nil _ | (apply BS.int; exact rfl) | (apply BS.ptr; exact rfl) | (apply BS.slice; exact rfl) | (apply BS.agg; iterate 2 exact rfl))); intro _)
      | (apply kT; (iterate 2 exact rfl); (· repeat (first | exact sH _ _ _ | apply sT)); iterate 2 exact rfl)
      | (apply kS; (iterate 2 exact rfl); (· repeat (first | exact sH _ _ _ | apply sT)); exact rfl)
      | (apply kh; (iterate 2 exact rfl); (first | decide | omega); exact rfl)
      | (apply kl; (iterate 2 exact rfl); (first | decide | omega); exact rfl)
      )
    | ((first | (apply kR; (· exact rfl); (· exact rfl)) | (apply kQ; (· exact rfl))); all_goals (intro hc; try simp only [decide_eq_true_eq, decide_eq_false_iff_not, Bool.not_eq_true', Bool.not_eq_false', Bool.not_eq_true, Bool.not_eq_false, Bool.not_true, Bool.not_false, Int.not_lt, Int.not_le, List.cons.injEq, and_true, beq_iff_eq, beq_eq_false_iff_ne] at hc; try (exfalso; first | contradiction | omega)))
    )
  apply LR.call
  · exact rfl
  intro w1 h1
  have h15 := c15 textM at_ ct w1 (h1.rd_of_own (List.Mem.head _)) (fun e => (ownsRow_some (h1.holds _ (List.Mem.head _)) e).2) (by simp [textM]) (by simp [textM, Byt])
  rw [p_text] at h15
  refine h15.mono ?_
  rintro v w2 ⟨a2, c2, rfl, hn⟩
  refine LR.back (h1.newSl hn) ?_
  clear hn h1 h15
  repeat' (
    first
    | (
      first
      | (apply kp; iterate 2 exact rfl)
      | apply ja | apply jb | apply jg | apply jj | (apply je; exact rfl) | (apply jf; exact rfl) | apply jd | apply jh | apply ji | (apply jc; kernel_rfl) | apply jk | apply jl | apply jm | apply jn | apply jo | (apply jp; exact rfl) | apply jq | apply jr | apply js | apply jt | apply ju | apply jv | apply jw | apply kN | apply kM
      | (apply kf; iterate 2 exact rfl)
      | (apply ko; (· exact rfl); (· repeat (first | exact mH _ _ | apply mT)); iterate 2 exact rfl)
      | (apply ka; (· exact rfl); (· repeat (first | exact mH _ _ | apply mT)); iterate 2 exact rfl)
      | (apply kr; (· exact rfl); (· repeat (first | exact mH _ _ | apply mT)); iterate 3 exact rfl)
      | (apply ks; (· exact rfl); (· repeat (first | exact mH _ _ | apply mT)); iterate 2 exact rfl)
      | (apply kn; iterate 2 exact rfl)
      | (apply ke; iterate 2 exact rfl)
      | (apply kx; iterate 2 exact rfl)
      | (apply kc; iterate 2 exact rfl)
      | (apply kb; iterate 2 exact rfl)
      | (apply kg; iterate 2 exact rfl)
      | (apply kG; iterate 3 exact rfl)
      | (apply kB; (iterate 2 exact rfl); intro _)
      | (apply kA; exact rfl; intro _)
      | (apply kL; (iterate 3 exact rfl); (· repeat (first | exact BS.nil _ | (apply BS.int; exact rfl) | (apply BS.ptr; exact rfl) | (apply BS.slice; exact rfl) | (apply BS.agg; iterate 2 exact rfl))); intro _)
      | (apply kT; (iterate 2 exact rfl); (· repeat (first | exact sH _ _ _ | apply sT)); iterate 2 exact rfl)
      | (apply kS; (iterate 2 exact rfl); (· repeat (first | exact sH _ _ _ | apply sT)); exact rfl)
      | (apply kh; (iterate 2 exact rfl); (first | decide | omega); exact rfl)
      | (apply kl; (iterate 2 exact rfl); (first | decide | omega); exact rfl)
      )
    | ((first | (apply kR; (· exact rfl); (· exact rfl)) | (apply kQ; (· exact rfl))); all_goals (intro hc; try simp only [decide_eq_true_eq, decide_eq_false_iff_not, Bool.not_eq_true', Bool.not_eq_false', Bool.not_eq_true, Bool.not_eq_false, Bool.not_true, Bool.not_false, Int.not_lt, Int.not_le, List.cons.injEq, and_true, beq_iff_eq, beq_eq_false_iff_ne] at hc; try (exfalso; first | contradiction | omega)))
    )
  apply LR.call
  · exact rfl
  intro w1 h1
  have h23 := d23 a2 c2 [1, 1, 9, 2, 0, 1, 130, 1, 1, 0, 0, 0, 0, 1, 65] w1 (h1.rd_of_own (List.Mem.head _)) (fun e => (ownsRow_some (h1.holds _ (List.Mem.head _)) e).2) (by simp) (by simp [Byt])
  rw [u_text] at h23
  refine h23.mono ?_
  rintro v w2 ⟨a3, c3, rfl, hn⟩
  refine LR.back (h1.newSl hn) ?_
  clear hn h1 h23
  repeat' (
    first
    | (apply CW.reg_heldC)
    | (
      first
      | (apply kp; iterate 2 exact rfl)
      | apply ja | apply jb | apply jg | apply jj | (apply je; exact rfl) | (apply jf; exact rfl) | apply jd | apply jh | apply ji | (apply jc; kernel_rfl) | apply jk | apply jl | apply jm | apply jn | apply jo | (apply jp; exact rfl) | apply jq | apply jr | apply js | apply jt | apply ju | apply jv | apply jw | apply kN | apply kM
      | (apply kf; iterate 2 exact rfl)
      | (apply ko; (· exact rfl); (· repeat (first | exact mH _ _ | apply mT)); iterate 2 exact rfl)
      | (apply ka; (· exact rfl); (· repeat (first | exact mH _ _ | apply mT)); iterate 2 exact rfl)
      | (apply kr; (· exact rfl); (· repeat (first | exact mH _ _ | apply mT)); iterate 3 exact rfl)
      | (apply ks; (· exact rfl); (· repeat (first | exact mH _ _ | apply mT)); iterate 2 exact rfl)
      | (apply kn; iterate 2 exact rfl)
      | (apply ke; iterate 2 exact rfl)
      | (apply kx; iterate 2 exact rfl)
      | (apply kc; iterate 2 exact rfl)
      | (apply kb; iterate 2 exact rfl)
      | (apply kg; iterate 2 exact rfl)
      | (apply kG; iterate 3 exact rfl)
      | (apply kB; (iterate 2 exact rfl); intro _)
      | (apply kA; exact rfl; intro _)
      | (apply kL; (iterate 3 exact rfl); (· repeat (first | exact BS.nil _ | (apply BS.int; exact rfl) | (apply BS.ptr; exact rfl) | (apply BS.slice; exact rfl) | (apply BS.agg; iterate 2 exact rfl))); intro _)
      | (apply kT; (iterate 2 exact rfl); (· repeat (first | exact sH _ _ _ | apply sT)); iterate 2 exact rfl)
      | (apply kS; (iterate 2 exact rfl); (· repeat (first | exact sH _ _ _ | apply sT)); exact rfl)
      | (apply kh; (iterate 2 exact rfl); (first | decide | omega); exact rfl)
      | (apply kl; (iterate 2 exact rfl); (first | decide | omega); exact rfl)
      )
    | ((first | (apply kR; (· exact rfl); (· exact rfl)) | (apply kQ; (· exact rfl))); all_goals (intro hc; try simp only [decide_eq_true_eq, decide_eq_false_iff_not, Bool.not_eq_true', Bool.not_eq_false', Bool.not_eq_true, Bool.not_eq_false, Bool.not_true, Bool.not_false, Int.not_lt, Int.not_le, List.cons.injEq, and_true, beq_iff_eq, beq_eq_false_iff_ne] at hc; try (exfalso; first | contradiction | omega)))
    )
  apply DW.quiet [0, 1, 2, 3, 4, 5, 6, 7, 8, 9, 10, 11]
  · decide +kernel
  · first | exact fun _ h => h | exact fun _ h => St.sub h (by repeat (first | exact List.Sublist.refl _ | apply List.Sublist.cons))
  repeat' (
    first
    | (apply yp; iterate 3 exact rfl)
    | (apply QL.ev; exact rfl
       · first
         | (apply Ev.load_own; (· exact rfl); (· repeat (first | exact mH _ _ | apply mT)); exact rfl)
         | (apply Ev.load_agg; (· exact rfl); (· repeat (first | exact mH _ _ | apply mT)); exact rfl)
         | (apply Ev.load_rdq; (· exact rfl); (· repeat (first | exact mH _ _ | apply mT)); iterate 2 exact rfl)
         | (apply Ev.load_ardq; (· exact rfl); (· repeat (first | exact mH _ _ | apply mT)); exact rfl)
         | (apply Ev.fieldAddr; exact rfl)
         | (apply Ev.len; exact rfl)
         | (apply EqOf.eq; exact rfl)
         | (apply EqOf.ne; exact rfl)
         | (apply Ev.conv; exact rfl)
         | (apply Ev.buildN; exact rfl)
         | (apply Ev.shr; (iterate 2 exact rfl); first | decide | omega)
         | (apply Ev.shl; (iterate 2 exact rfl); first | decide | omega)
       · exact rfl)
    | (apply yq; iterate 5 exact rfl)
    | (apply QL.evg; iterate 3 exact rfl
       · first
         | (apply Ev.load_own; (· exact rfl); (· repeat (first | exact mH _ _ | apply mT)); exact rfl)
         | (apply Ev.load_agg; (· exact rfl); (· repeat (first | exact mH _ _ | apply mT)); exact rfl)
         | (apply Ev.load_rdq; (· exact rfl); (· repeat (first | exact mH _ _ | apply mT)); iterate 2 exact rfl)
         | (apply Ev.load_ardq; (· exact rfl); (· repeat (first | exact mH _ _ | apply mT)); exact rfl)
         | (apply Ev.fieldAddr; exact rfl)
         | (apply Ev.len; exact rfl)
         | (apply EqOf.eq; exact rfl)
         | (apply EqOf.ne; exact rfl)
         | (apply Ev.conv; exact rfl)
         | (apply Ev.buildN; exact rfl)
         | (apply Ev.shr; (iterate 2 exact rfl); first | decide | omega)
         | (apply Ev.shl; (iterate 2 exact rfl); first | decide | omega)
       · exact rfl)
    | (apply yn; iterate 4 exact rfl)
    | apply QL.nil
    )
  show DW _ _ _ _ _ _ _ _
  apply DW.loud 12
  · exact rfl
  · decide +kernel
  repeat' (
    first
    | (apply kg; iterate 2 exact rfl)
    | (apply kG; iterate 3 exact rfl)
    | apply kM
    | (
      first
      | (apply kp; iterate 2 exact rfl)
      | (apply ko; (· exact rfl); (· repeat (first | exact mH _ _ | apply mT)); iterate 2 exact rfl)
      | (apply ka; (· exact rfl); (· repeat (first | exact mH _ _ | apply mT)); iterate 2 exact rfl)
      | (apply kL; (iterate 3 exact rfl); (· repeat (first | exact BS.nil _ | (apply BS.int; exact rfl) | (apply BS.ptr; exact rfl) | (apply BS.slice; exact rfl) | (apply BS.agg; iterate 2 exact rfl))); intro _)
      | (apply kT; (iterate 2 exact rfl); (· repeat (first | exact sH _ _ _ | apply sT)); iterate 2 exact rfl)
      | (apply kS; (iterate 2 exact rfl); (· repeat (first | exact sH _ _ _ | apply sT)); exact rfl)
      | (apply kB; (iterate 2 exact rfl); intro _)
      | (apply kA; exact rfl; intro _)
      )
    | (apply LR.qcall; (· exact rfl); (· intro w1 h1; first | exact CallsTo.q (c19 _ _ _ _ [2, 3, 0, 0, 0, 0, 0, 0, 5, 2, 1, 7, 0] [2, 3, 0, 0, 0, 0, 0, 0, 5, 2, 1, 7, 0] w1 (h1.rd_of_own (by (repeat (first | exact mH _ _ | apply mT)))) (h1.rd_of_blk (by (repeat (first | exact mH _ _ | apply mT)))) (by simp)) h1 | exact CallsTo.q (c19 _ _ _ _ [1, 1, 9, 2, 0, 1, 130, 1, 1, 0, 0, 0, 0, 1, 65] [1, 1, 9, 2, 0, 1, 130, 1, 1, 0, 0, 0, 0, 1, 65] w1 (h1.rd_of_own (by (repeat (first | exact mH _ _ | apply mT)))) (h1.rd_of_blk (by (repeat (first | exact mH _ _ | apply mT)))) (by simp)) h1))
    )
  refine At.stage_same (fun _ h => St.sub h (by repeat (first | exact List.Sublist.refl _ | apply List.Sublist.cons))) ?_
  apply DW.loud 13
  · exact rfl
  · decide +kernel
  repeat' (
    first
    | (apply kg; iterate 2 exact rfl)
    | (apply kG; iterate 3 exact rfl)
    | apply kM
    | (
      first
      | (apply kp; iterate 2 exact rfl)
      | (apply ko; (· exact rfl); (· repeat (first | exact mH _ _ | apply mT)); iterate 2 exact rfl)
      | (apply ka; (· exact rfl); (· repeat (first | exact mH _ _ | apply mT)); iterate 2 exact rfl)
      | (apply kL; (iterate 3 exact rfl); (· repeat (first | exact BS.nil _ | (apply BS.int; exact rfl) | (apply BS.ptr; exact rfl) | (apply BS.slice; exact rfl) | (apply BS.agg; iterate 2 exact rfl))); intro _)
      | (apply kT; (iterate 2 exact rfl); (· repeat (first | exact sH _ _ _ | apply sT)); iterate 2 exact rfl)
      | (apply kS; (iterate 2 exact rfl); (· repeat (first | exact sH _ _ _ | apply sT)); exact rfl)
      | (apply kB; (iterate 2 exact rfl); intro _)
      | (apply kA; exact rfl; intro _)
      )
    | (apply LR.qcall; (· exact rfl); (· intro w1 h1; first | exact CallsTo.q (c19 _ _ _ _ [2, 3, 0, 0, 0, 0, 0, 0, 5, 2, 1, 7, 0] [2, 3, 0, 0, 0, 0, 0, 0, 5, 2, 1, 7, 0] w1 (h1.rd_of_own (by (repeat (first | exact mH _ _ | apply mT)))) (h1.rd_of_blk (by (repeat (first | exact mH _ _ | apply mT)))) (by simp)) h1 | exact CallsTo.q (c19 _ _ _ _ [1, 1, 9, 2, 0, 1, 130, 1, 1, 0, 0, 0, 0, 1, 65] [1, 1, 9, 2, 0, 1, 130, 1, 1, 0, 0, 0, 0, 1, 65] w1 (h1.rd_of_own (by (repeat (first | exact mH _ _ | apply mT)))) (h1.rd_of_blk (by (repeat (first | exact mH _ _ | apply mT)))) (by simp)) h1))
    )
  refine At.stage_same (fun _ h => St.sub h (by repeat (first | exact List.Sublist.refl _ | apply List.Sublist.cons))) ?_
  apply DW.quiet [14, 15, 16]
  · decide +kernel
  · first | exact fun _ h => h | exact fun _ h => St.sub h (by repeat (first | exact List.Sublist.refl _ | apply List.Sublist.cons))
  repeat' (
    first
    | (apply yp; iterate 3 exact rfl)
    | (apply QL.ev; exact rfl
       · first
         | (apply Ev.load_own; (· exact rfl); (· repeat (first | exact mH _ _ | apply mT)); exact rfl)
         | (apply Ev.load_agg; (· exact rfl); (· repeat (first | exact mH _ _ | apply mT)); exact rfl)
         | (apply Ev.load_rdq; (· exact rfl); (· repeat (first | exact mH _ _ | apply mT)); iterate 2 exact rfl)
         | (apply Ev.load_ardq; (· exact rfl); (· repeat (first | exact mH _ _ | apply mT)); exact rfl)
         | (apply Ev.fieldAddr; exact rfl)
         | (apply Ev.len; exact rfl)
         | (apply EqOf.eq; exact rfl)
         | (apply EqOf.ne; exact rfl)
         | (apply Ev.conv; exact rfl)
         | (apply Ev.buildN; exact rfl)
         | (apply Ev.shr; (iterate 2 exact rfl); first | decide | omega)
         | (apply Ev.shl; (iterate 2 exact rfl); first | decide | omega)
       · exact rfl)
    | (apply yq; iterate 5 exact rfl)
    | (apply QL.evg; iterate 3 exact rfl
       · first
         | (apply Ev.load_own; (· exact rfl); (· repeat (first | exact mH _ _ | apply mT)); exact rfl)
         | (apply Ev.load_agg; (· exact rfl); (· repeat (first | exact mH _ _ | apply mT)); exact rfl)
         | (apply Ev.load_rdq; (· exact rfl); (· repeat (first | exact mH _ _ | apply mT)); iterate 2 exact rfl)
         | (apply Ev.load_ardq; (· exact rfl); (· repeat (first | exact mH _ _ | apply mT)); exact rfl)
         | (apply Ev.fieldAddr; exact rfl)
         | (apply Ev.len; exact rfl)
         | (apply EqOf.eq; exact rfl)
         | (apply EqOf.ne; exact rfl)
         | (apply Ev.conv; exact rfl)
         | (apply Ev.buildN; exact rfl)
         | (apply Ev.shr; (iterate 2 exact rfl); first | decide | omega)
         | (apply Ev.shl; (iterate 2 exact rfl); first | decide | omega)
       · exact rfl)
    | (apply yn; iterate 4 exact rfl)
    | apply QL.nil
    )
  show DW _ _ _ _ _ _ _ _
  apply DW.loud 17
  · exact rfl
  · decide +kernel
  repeat' (
    first
    | (apply kg; iterate 2 exact rfl)
    | (apply kG; iterate 3 exact rfl)
    | apply kM
    | (
      first
      | (apply kp; iterate 2 exact rfl)
      | (apply ko; (· exact rfl); (· repeat (first | exact mH _ _ | apply mT)); iterate 2 exact rfl)
      | (apply ka; (· exact rfl); (· repeat (first | exact mH _ _ | apply mT)); iterate 2 exact rfl)
      | (apply kL; (iterate 3 exact rfl); (· repeat (first | exact BS.nil _ | (apply BS.int; exact rfl) | (apply BS.ptr; exact rfl) | (apply BS.slice; exact rfl) | (apply BS.agg; iterate 2 exact rfl))); intro _)
      | (apply kT; (iterate 2 exact rfl); (· repeat (first | exact sH _ _ _ | apply sT)); iterate 2 exact rfl)
      | (apply kS; (iterate 2 exact rfl); (· repeat (first | exact sH _ _ _ | apply sT)); exact rfl)
      | (apply kB; (iterate 2 exact rfl); intro _)
      | (apply kA; exact rfl; intro _)
      )
    | (apply LR.qcall; (· exact rfl); (· intro w1 h1; first | exact CallsTo.q (c19 _ _ _ _ [2, 3, 0, 0, 0, 0, 0, 0, 5, 2, 1, 7, 0] [2, 3, 0, 0, 0, 0, 0, 0, 5, 2, 1, 7, 0] w1 (h1.rd_of_own (by (repeat (first | exact mH _ _ | apply mT)))) (h1.rd_of_blk (by (repeat (first | exact mH _ _ | apply mT)))) (by simp)) h1 | exact CallsTo.q (c19 _ _ _ _ [1, 1, 9, 2, 0, 1, 130, 1, 1, 0, 0, 0, 0, 1, 65] [1, 1, 9, 2, 0, 1, 130, 1, 1, 0, 0, 0, 0, 1, 65] w1 (h1.rd_of_own (by (repeat (first | exact mH _ _ | apply mT)))) (h1.rd_of_blk (by (repeat (first | exact mH _ _ | apply mT)))) (by simp)) h1))
    )
  refine At.stage_same (fun _ h => St.sub h (by repeat (first | exact List.Sublist.refl _ | apply List.Sublist.cons))) ?_
  apply DW.loud 18
  · exact rfl
  · decide +kernel
  repeat' (
    first
    | (apply kg; iterate 2 exact rfl)
    | (apply kG; iterate 3 exact rfl)
    | apply kM
    | (
      first
      | (apply kp; iterate 2 exact rfl)
      | (apply ko; (· exact rfl); (· repeat (first | exact mH _ _ | apply mT)); iterate 2 exact rfl)
      | (apply ka; (· exact rfl); (· repeat (first | exact mH _ _ | apply mT)); iterate 2 exact rfl)
      | (apply kL; (iterate 3 exact rfl); (· repeat (first | exact BS.nil _ | (apply BS.int; exact rfl) | (apply BS.ptr; exact rfl) | (apply BS.slice; exact rfl) | (apply BS.agg; iterate 2 exact rfl))); intro _)
      | (apply kT; (iterate 2 exact rfl); (· repeat (first | exact sH _ _ _ | apply sT)); iterate 2 exact rfl)
      | (apply kS; (iterate 2 exact rfl); (· repeat (first | exact sH _ _ _ | apply sT)); exact rfl)
      | (apply kB; (iterate 2 exact rfl); intro _)
      | (apply kA; exact rfl; intro _)
      )
    | (apply LR.qcall; (· exact rfl); (· intro w1 h1; first | exact CallsTo.q (c19 _ _ _ _ [2, 3, 0, 0, 0, 0, 0, 0, 5, 2, 1, 7, 0] [2, 3, 0, 0, 0, 0, 0, 0, 5, 2, 1, 7, 0] w1 (h1.rd_of_own (by (repeat (first | exact mH _ _ | apply mT)))) (h1.rd_of_blk (by (repeat (first | exact mH _ _ | apply mT)))) (by simp)) h1 | exact CallsTo.q (c19 _ _ _ _ [1, 1, 9, 2, 0, 1, 130, 1, 1, 0, 0, 0, 0, 1, 65] [1, 1, 9, 2, 0, 1, 130, 1, 1, 0, 0, 0, 0, 1, 65] w1 (h1.rd_of_own (by (repeat (first | exact mH _ _ | apply mT)))) (h1.rd_of_blk (by (repeat (first | exact mH _ _ | apply mT)))) (by simp)) h1))
    )
  refine At.stage_same (fun _ h => St.sub h (by repeat (first | exact List.Sublist.refl _ | apply List.Sublist.cons))) ?_
  apply DW.quiet [19, 20, 21]
  · decide +kernel
  · first | exact fun _ h => h | exact fun _ h => St.sub h (by repeat (first | exact List.Sublist.refl _ | apply List.Sublist.cons))
  repeat' (
    first
    | (apply yp; iterate 3 exact rfl)
    | (apply QL.ev; exact rfl
       · first
         | (apply Ev.load_own; (· exact rfl); (· repeat (first | exact mH _ _ | apply mT)); exact rfl)
         | (apply Ev.load_agg; (· exact rfl); (· repeat (first | exact mH _ _ | apply mT)); exact rfl)
         | (apply Ev.load_rdq; (· exact rfl); (· repeat (first | exact mH _ _ | apply mT)); iterate 2 exact rfl)
         | (apply Ev.load_ardq; (· exact rfl); (· repeat (first | exact mH _ _ | apply mT)); exact rfl)
         | (apply Ev.fieldAddr; exact rfl)
         | (apply Ev.len; exact rfl)
         | (apply EqOf.eq; exact rfl)
         | (apply EqOf.ne; exact rfl)
         | (apply Ev.conv; exact rfl)
         | (apply Ev.buildN; exact rfl)
         | (apply Ev.shr; (iterate 2 exact rfl); first | decide | omega)
         | (apply Ev.shl; (iterate 2 exact rfl); first | decide | omega)
       · exact rfl)
    | (apply yq; iterate 5 exact rfl)
    | (apply QL.evg; iterate 3 exact rfl
       · first
         | (apply Ev.load_own; (· exact rfl); (· repeat (first | exact mH _ _ | apply mT)); exact rfl)
         | (apply Ev.load_agg; (· exact rfl); (· repeat (first | exact mH _ _ | apply mT)); exact rfl)
         | (apply Ev.load_rdq; (· exact rfl); (· repeat (first | exact mH _ _ | apply mT)); iterate 2 exact rfl)
         | (apply Ev.load_ardq; (· exact rfl); (· repeat (first | exact mH _ _ | apply mT)); exact rfl)
         | (apply Ev.fieldAddr; exact rfl)
         | (apply Ev.len; exact rfl)
         | (apply EqOf.eq; exact rfl)
         | (apply EqOf.ne; exact rfl)
         | (apply Ev.conv; exact rfl)
         | (apply Ev.buildN; exact rfl)
         | (apply Ev.shr; (iterate 2 exact rfl); first | decide | omega)
         | (apply Ev.shl; (iterate 2 exact rfl); first | decide | omega)
       · exact rfl)
    | (apply yn; iterate 4 exact rfl)
    | apply QL.nil
    )
  show DW _ _ _ _ _ _ _ _
  apply DW.loud 22
  · exact rfl
  · kernel_rfl
  repeat' (
    first
    | (
      first
      | (apply kp; iterate 2 exact rfl)
      | apply ja | apply jb | apply jg | apply jj | (apply je; exact rfl) | (apply jf; exact rfl) | apply jd | apply jh | apply ji | (apply jc; kernel_rfl) | apply jk | apply jl | apply jm | apply jn | apply jo | (apply jp; exact rfl) | apply jq | apply jr | apply js | apply jt | apply ju | apply jv | apply jw | apply kN | apply kM
      | (apply kf; iterate 2 exact rfl)
      | (apply ko; (· exact rfl); (· repeat (first | exact mH _ _ | apply mT)); iterate 2 exact rfl)
      | (apply ka; (· exact rfl); (· repeat (first | exact mH _ _ | apply mT)); iterate 2 exact rfl)
      | (apply kr; (· exact rfl); (· repeat (first | exact mH _ _ | apply mT)); iterate 3 exact rfl)
      | (apply ks; (· exact rfl); (· repeat (first | exact mH _ _ | apply mT)); iterate 2 exact rfl)
      | (apply kn; iterate 2 exact rfl)
      | (apply ke; iterate 2 exact rfl)
      | (apply kx; iterate 2 exact rfl)
      | (apply kc; iterate 2 exact rfl)
      | (apply kb; iterate 2 exact rfl)
      | (apply kg; iterate 2 exact rfl)
      | (apply kG; iterate 3 exact rfl)
      | (apply kB; (iterate 2 exact rfl); intro _)
      | (apply kA; exact rfl; intro _)
      | (apply kL; (iterate 3 exact rfl); (· repeat (first | exact BS.nil _ | (apply BS.int; exact rfl) | (apply BS.ptr; exact rfl) | (apply BS.slice; exact rfl) | (apply BS.agg; iterate 2 exact rfl))); intro _)
      | (apply kT; (iterate 2 exact rfl); (· repeat (first | exact sH _ _ _ | apply sT)); iterate 2 exact rfl)
      | (apply kS; (iterate 2 exact rfl); (· repeat (first | exact sH _ _ _ | apply sT)); exact rfl)
      | (apply kh; (iterate 2 exact rfl); (first | decide | omega); exact rfl)
      | (apply kl; (iterate 2 exact rfl); (first | decide | omega); exact rfl)
      )
    | ((first | (apply kR; (· exact rfl); (· exact rfl)) | (apply kQ; (· exact rfl))); all_goals (intro hc; try simp only [decide_eq_true_eq, decide_eq_false_iff_not, Bool.not_eq_true', Bool.not_eq_false', Bool.not_eq_true, Bool.not_eq_false, Bool.not_true, Bool.not_false, Int.not_lt, Int.not_le, List.cons.injEq, and_true, beq_iff_eq, beq_eq_false_iff_ne] at hc; try (exfalso; first | contradiction | omega)))
    )
  apply LR.call
  · exact rfl
  intro w1 h1
  refine (c37 w1).mono ?_
  rintro v w2 ⟨at4, ct4, rfl, hn⟩
  refine LR.back (h1.newSl hn) ?_
  clear hn h1
  repeat' (
    first
    | (
      first
      | (apply kp; iterate 2 exact rfl)
      | apply ja | apply jb | apply jg | apply jj | (apply je; exact rfl) | (apply jf; exact rfl) | apply jd | apply jh | apply ji | (apply jc; kernel_rfl) | apply jk | apply jl | apply jm | apply jn | apply jo | (apply jp; exact rfl) | apply jq | apply jr | apply js | apply jt | apply ju | apply jv | apply jw | apply kN | apply kM
      | (apply kf; iterate 2 exact rfl)
      | (apply ko; (· exact rfl); (· repeat (first | exact mH _ _ | apply mT)); iterate 2 exact rfl)
      | (apply ka; (· exact rfl); (· repeat (first | exact mH _ _ | apply mT)); iterate 2 exact rfl)
      | (apply kr; (· exact rfl); (· repeat (first | exact mH _ _ | apply mT)); iterate 3 exact rfl)
      | (apply ks; (· exact rfl); (· repeat (first | exact mH _ _ | apply mT)); iterate 2 exact rfl)
      | (apply kn; iterate 2 exact rfl)
      | (apply ke; iterate 2 exact rfl)
      | (apply kx; iterate 2 exact rfl)
      | (apply kc; iterate 2 exact rfl)
      | (apply kb; iterate 2 exact rfl)
      | (apply kg; iterate 2 exact rfl)
      | (apply kG; iterate 3 exact rfl)
      | (apply kB; (iterate 2 exact rfl); intro _)
      | (apply kA; exact rfl; intro _)
      | (apply kL; (iterate 3 exact rfl); (· repeat (first | exact BS.nil _ | (apply BS.int; exact rfl) | (apply BS.ptr; exact rfl) | (apply BS.slice; exact rfl) | (apply BS.agg; iterate 2 exact rfl))); intro _)
      | (apply kT; (iterate 2 exact rfl); (· repeat (first | exact sH _ _ _ | apply sT)); iterate 2 exact rfl)
      | (apply kS; (iterate 2 exact rfl); (· repeat (first | exact sH _ _ _ | apply sT)); exact rfl)
      | (apply kh; (iterate 2 exact rfl); (first | decide | omega); exact rfl)
      | (apply kl; (iterate 2 exact rfl); (first | decide | omega); exact rfl)
      )
    | ((first | (apply kR; (· exact rfl); (· exact rfl)) | (apply kQ; (· exact rfl))); all_goals (intro hc; try simp only [decide_eq_true_eq, decide_eq_false_iff_not, Bool.not_eq_true', Bool.not_eq_false', Bool.not_eq_true, Bool.not_eq_false, Bool.not_true, Bool.not_false, Int.not_lt, Int.not_le, List.cons.injEq, and_true, beq_iff_eq, beq_eq_false_iff_ne] at hc; try (exfalso; first | contradiction | omega)))
    )
  refine At.stage_same (fun _ h => St.sub h (by repeat (first | exact List.Sublist.refl _ | apply List.Sublist.cons))) ?_
  apply DW.loud 23
  · exact rfl
  · decide +kernel
  repeat' (
    first
    | (apply kg; iterate 2 exact rfl)
    | (apply kG; iterate 3 exact rfl)
    | apply kM
    | (
      first
      | (apply kp; iterate 2 exact rfl)
      | (apply ko; (· exact rfl); (· repeat (first | exact mH _ _ | apply mT)); iterate 2 exact rfl)
      | (apply ka; (· exact rfl); (· repeat (first | exact mH _ _ | apply mT)); iterate 2 exact rfl)
      | (apply kL; (iterate 3 exact rfl); (· repeat (first | exact BS.nil _ | (apply BS.int; exact rfl) | (apply BS.ptr; exact rfl) | (apply BS.slice; exact rfl) | (apply BS.agg; iterate 2 exact rfl))); intro _)
      | (apply kT; (iterate 2 exact rfl); (· repeat (first | exact sH _ _ _ | apply sT)); iterate 2 exact rfl)
      | (apply kS; (iterate 2 exact rfl); (· repeat (first | exact sH _ _ _ | apply sT)); exact rfl)
      | (apply kB; (iterate 2 exact rfl); intro _)
      | (apply kA; exact rfl; intro _)
      )
    | (apply LR.qcall; (· exact rfl); (· intro w1 h1; have hq := CallsTo.q (c30 textM textM a3 at4 c3 ct4 w1 (h1.rd_of_own (by (repeat (first | exact mH _ _ | apply mT)))) (h1.rd_of_own (by (repeat (first | exact mH _ _ | apply mT)))) (by simp [textM])) h1; rw [sameB_self] at hq; show CallsTo Try.prog 30 [textM.val a3 c3, textM.val at4 ct4] w1 _; exact hq))
    )
  refine At.stage_same (fun _ h => St.sub h (by repeat (first | exact List.Sublist.refl _ | apply List.Sublist.cons))) ?_
  apply DW.quiet [24, 25]
  · decide +kernel
  · first | exact fun _ h => h | exact fun _ h => St.sub h (by repeat (first | exact List.Sublist.refl _ | apply List.Sublist.cons))
  repeat' (
    first
    | (apply yp; iterate 3 exact rfl)
    | (apply QL.ev; exact rfl
       · first
         | (apply Ev.load_own; (· exact rfl); (· repeat (first | exact mH _ _ | apply mT)); exact rfl)
         | (apply Ev.load_agg; (· exact rfl); (· repeat (first | exact mH _ _ | apply mT)); exact rfl)
         | (apply Ev.load_rdq; (· exact rfl); (· repeat (first | exact mH _ _ | apply mT)); iterate 2 exact rfl)
         | (apply Ev.load_ardq; (· exact rfl); (· repeat (first | exact mH _ _ | apply mT)); exact rfl)
         | (apply Ev.fieldAddr; exact rfl)
         | (apply Ev.len; exact rfl)
         | (apply EqOf.eq; exact rfl)
         | (apply EqOf.ne; exact rfl)
         | (apply Ev.conv; exact rfl)
         | (apply Ev.buildN; exact rfl)
         | (apply Ev.shr; (iterate 2 exact rfl); first | decide | omega)
         | (apply Ev.shl; (iterate 2 exact rfl); first | decide | omega)
       · exact rfl)
    | (apply yq; iterate 5 exact rfl)
    | (apply QL.evg; iterate 3 exact rfl
       · first
         | (apply Ev.load_own; (· exact rfl); (· repeat (first | exact mH _ _ | apply mT)); exact rfl)
         | (apply Ev.load_agg; (· exact rfl); (· repeat (first | exact mH _ _ | apply mT)); exact rfl)
         | (apply Ev.load_rdq; (· exact rfl); (· repeat (first | exact mH _ _ | apply mT)); iterate 2 exact rfl)
         | (apply Ev.load_ardq; (· exact rfl); (· repeat (first | exact mH _ _ | apply mT)); exact rfl)
         | (apply Ev.fieldAddr; exact rfl)
         | (apply Ev.len; exact rfl)
         | (apply EqOf.eq; exact rfl)
         | (apply EqOf.ne; exact rfl)
         | (apply Ev.conv; exact rfl)
         | (apply Ev.buildN; exact rfl)
         | (apply Ev.shr; (iterate 2 exact rfl); first | decide | omega)
         | (apply Ev.shl; (iterate 2 exact rfl); first | decide | omega)
       · exact rfl)
    | (apply yn; iterate 4 exact rfl)
    | apply QL.nil
    )
  show DW _ _ _ _ _ _ _ _
  apply DW.done_thn
  · kernel_rfl
  repeat' (
    first
    | (
      first
      | (apply kp; iterate 2 exact rfl)
      | apply ja | apply jb | apply jg | apply jj | (apply je; exact rfl) | (apply jf; exact rfl) | apply jd | apply jh | apply ji | (apply jc; kernel_rfl) | apply jk | apply jl | apply jm | apply jn | apply jo | (apply jp; exact rfl) | apply jq | apply jr | apply js | apply jt | apply ju | apply jv | apply jw | apply kN | apply kM
      | (apply kf; iterate 2 exact rfl)
      | (apply ko; (· exact rfl); (· repeat (first | exact mH _ _ | apply mT)); iterate 2 exact rfl)
      | (apply ka; (· exact rfl); (· repeat (first | exact mH _ _ | apply mT)); iterate 2 exact rfl)
      | (apply kr; (· exact rfl); (· repeat (first | exact mH _ _ | apply mT)); iterate 3 exact rfl)
      | (apply ks; (· exact rfl); (· repeat (first | exact mH _ _ | apply mT)); iterate 2 exact rfl)
      | (apply kn; iterate 2 exact rfl)
      | (apply ke; iterate 2 exact rfl)
      | (apply kx; iterate 2 exact rfl)
      | (apply kc; iterate 2 exact rfl)
      | (apply kb; iterate 2 exact rfl)
      | (apply kg; iterate 2 exact rfl)
      | (apply kG; iterate 3 exact rfl)
      | (apply kB; (iterate 2 exact rfl); intro _)
      | (apply kA; exact rfl; intro _)
      | (apply kL; (iterate 3 exact rfl); (· repeat (first | exact BS.nil _ | (apply BS.int; exact rfl) | (apply BS.ptr; exact rfl) | (apply BS.slice; exact rfl) | (apply BS.agg; iterate 2 exact rfl))); intro _)
      | (apply kT; (iterate 2 exact rfl); (· repeat (first | exact sH _ _ _ | apply sT)); iterate 2 exact rfl)
      | (apply kS; (iterate 2 exact rfl); (· repeat (first | exact sH _ _ _ | apply sT)); exact rfl)
      | (apply kh; (iterate 2 exact rfl); (first | decide | omega); exact rfl)
      | (apply kl; (iterate 2 exact rfl); (first | decide | omega); exact rfl)
      )
    | ((first | (apply kR; (· exact rfl); (· exact rfl)) | (apply kQ; (· exact rfl))); all_goals (intro hc; try simp only [decide_eq_true_eq, decide_eq_false_iff_not, Bool.not_eq_true', Bool.not_eq_false', Bool.not_eq_true, Bool.not_eq_false, Bool.not_true, Bool.not_false, Int.not_lt, Int.not_le, List.cons.injEq, and_true, beq_iff_eq, beq_eq_false_iff_ne] at hc; try (exfalso; first | contradiction | omega)))
    )
  (apply ret1; (· exact rfl); intro w' hS)
  exact ⟨rfl, hS.toKeep⟩
end Go.Proofs.Ytomlgnncncjmaaa
