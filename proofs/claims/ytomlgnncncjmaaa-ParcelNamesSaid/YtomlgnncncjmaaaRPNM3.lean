/-
  Data and messages sent again, both sides.
-/
import Derived.Test.YtomlgnncncjmaaaRPNM2
import Derived.OpenShut

namespace Go.Proofs.Ytomlgnncncjmaaa
open Go.Hb
attribute [local irreducible] LR CW At Ev thn blk finK noG again CallsTo DW QL dnext
set_option linter.unusedSimpArgs false
set_option linter.unusedVariables false
set_option maxRecDepth 100000

def markedM : Msg := ⟨2, 3, 0, 0, 0, 0, 0, false, 5, 2, 1, 7, []⟩
def textM : Msg := ⟨1, 1, 9, 2, 0, 1, 130, true, 0, 0, 0, 0, [65]⟩
theorem p_marked : pack markedM = ([2, 3, 0, 0, 0, 0, 0, 0, 5, 2, 1, 7, 0], 0) := by kernel_rfl
theorem p_text : pack textM = ([1, 1, 9, 2, 0, 1, 130, 1, 1, 0, 0, 0, 0, 1, 65], 0) := by kernel_rfl
theorem u_text : unpack [1, 1, 9, 2, 0, 1, 130, 1, 1, 0, 0, 0, 0, 1, 65] = (textM, 0) := by kernel_rfl

set_option maxHeartbeats 4000000 in
theorem c21 (w : World) : CallsTo Try.prog 21 [] w fun v w' => v = .bool true ∧ Grew w w' := by
  refine go_in (n := 47) (St.refl _ NoF) Try.func21 rfl rfl ?_
  repeat'(first|(apply kp;iterate 2 exact rfl)|apply jJ|(apply jE;exact rfl)|(apply jp;exact rfl)|(apply jc;kernel_rfl)|((first|apply kf|apply kn|apply ke|apply kx|apply kc|apply kb);iterate 2 exact rfl)|((first|apply kz|apply ky);(·exact rfl);(·repeat(first|exact iO|exact iR rfl|apply iT));iterate 2 exact rfl)|(apply kg;iterate 2 exact rfl)|(apply kG;iterate 3 exact rfl)|(apply kB;(iterate 2 exact rfl);intro _)|(apply kA;exact rfl;intro _)|(apply kK;(iterate 4 exact rfl);intro _)|(apply kU;(iterate 2 exact rfl);(·repeat(first|exact sH _ _ _|apply sT));(first|exact nfL_eq rfl|exact rfl);exact rfl)|((first|apply kh|apply kl);(iterate 2 exact rfl);(first|decide|omega);exact rfl)|(apply LR.qcall; (· exact rfl); (· intro w1 h1; exact CallsTo.q (c36 w1) h1))|((first|(apply kR;iterate 2 exact rfl)|(apply kQ;exact rfl));all_goals(intro hc;try simp only[hcs]at hc;try(exfalso;first|contradiction|omega))))
  apply LR.call
  · exact rfl
  intro w1 h1
  have h15 := c15 markedM none 0 w1 (Rd.nil _ _) (fun _ => rfl) (by simp [markedM]) (by simp [markedM, Byt])
  rw [p_marked] at h15
  refine h15.mono ?_
  rintro v w2 ⟨a1, c1, rfl, hn⟩
  refine LR.back (h1.newSl hn) ?_
  clear hn h1 h15
  repeat'(first|(apply kp;iterate 2 exact rfl)|apply jJ|(apply jE;exact rfl)|(apply jp;exact rfl)|(apply jc;kernel_rfl)|((first|apply kf|apply kn|apply ke|apply kx|apply kc|apply kb);iterate 2 exact rfl)|((first|apply kz|apply ky);(·exact rfl);(·repeat(first|exact iO|exact iR rfl|apply iT));iterate 2 exact rfl)|(apply kg;iterate 2 exact rfl)|(apply kG;iterate 3 exact rfl)|(apply kB;(iterate 2 exact rfl);intro _)|(apply kA;exact rfl;intro _)|(apply kK;(iterate 4 exact rfl);intro _)|(apply kU;(iterate 2 exact rfl);(·repeat(first|exact sH _ _ _|apply sT));(first|exact nfL_eq rfl|exact rfl);exact rfl)|((first|apply kh|apply kl);(iterate 2 exact rfl);(first|decide|omega);exact rfl)|((first|(apply kR;iterate 2 exact rfl)|(apply kQ;exact rfl));all_goals(intro hc;try simp only[hcs]at hc;try(exfalso;first|contradiction|omega))))
  apply LR.call
  · exact rfl
  intro w1 h1
  refine (c37 w1).mono ?_
  rintro v w2 ⟨at_, ct, rfl, hn⟩
  refine LR.back (h1.newSl hn) ?_
  clear hn h1
  repeat'(first|(apply kp;iterate 2 exact rfl)|apply jJ|(apply jE;exact rfl)|(apply jp;exact rfl)|(apply jc;kernel_rfl)|((first|apply kf|apply kn|apply ke|apply kx|apply kc|apply kb);iterate 2 exact rfl)|((first|apply kz|apply ky);(·exact rfl);(·repeat(first|exact iO|exact iR rfl|apply iT));iterate 2 exact rfl)|(apply kg;iterate 2 exact rfl)|(apply kG;iterate 3 exact rfl)|(apply kB;(iterate 2 exact rfl);intro _)|(apply kA;exact rfl;intro _)|(apply kK;(iterate 4 exact rfl);intro _)|(apply kU;(iterate 2 exact rfl);(·repeat(first|exact sH _ _ _|apply sT));(first|exact nfL_eq rfl|exact rfl);exact rfl)|((first|apply kh|apply kl);(iterate 2 exact rfl);(first|decide|omega);exact rfl)|((first|(apply kR;iterate 2 exact rfl)|(apply kQ;exact rfl));all_goals(intro hc;try simp only[hcs]at hc;try(exfalso;first|contradiction|omega))))
  apply LR.call
  · exact rfl
  intro w1 h1
  have h15 := c15 textM at_ ct w1 (h1.rd_of_own (List.Mem.head _)) (fun e => (ownsRow_some (h1.holds _ (List.Mem.head _)) e).2) (by simp [textM]) (by simp [textM, Byt])
  rw [p_text] at h15
  refine h15.mono ?_
  rintro v w2 ⟨a2, c2, rfl, hn⟩
  refine LR.back (h1.newSl hn) ?_
  clear hn h1 h15
  repeat'(first|(apply kp;iterate 2 exact rfl)|apply jJ|(apply jE;exact rfl)|(apply jp;exact rfl)|(apply jc;kernel_rfl)|((first|apply kf|apply kn|apply ke|apply kx|apply kc|apply kb);iterate 2 exact rfl)|((first|apply kz|apply ky);(·exact rfl);(·repeat(first|exact iO|exact iR rfl|apply iT));iterate 2 exact rfl)|(apply kg;iterate 2 exact rfl)|(apply kG;iterate 3 exact rfl)|(apply kB;(iterate 2 exact rfl);intro _)|(apply kA;exact rfl;intro _)|(apply kK;(iterate 4 exact rfl);intro _)|(apply kU;(iterate 2 exact rfl);(·repeat(first|exact sH _ _ _|apply sT));(first|exact nfL_eq rfl|exact rfl);exact rfl)|((first|apply kh|apply kl);(iterate 2 exact rfl);(first|decide|omega);exact rfl)|((first|(apply kR;iterate 2 exact rfl)|(apply kQ;exact rfl));all_goals(intro hc;try simp only[hcs]at hc;try(exfalso;first|contradiction|omega))))
  apply LR.call
  · exact rfl
  intro w1 h1
  have h23 := d23 a2 c2 [1, 1, 9, 2, 0, 1, 130, 1, 1, 0, 0, 0, 0, 1, 65] w1 (h1.rd_of_own (List.Mem.head _)) (fun e => (ownsRow_some (h1.holds _ (List.Mem.head _)) e).2) (by simp) (by simp [Byt])
  rw [u_text] at h23
  refine h23.mono ?_
  rintro v w2 ⟨a3, c3, rfl, hn⟩
  refine LR.back (h1.newSl hn) ?_
  clear hn h1 h23
  repeat'(first|(apply CW.reg_heldC)|(apply kp;iterate 2 exact rfl)|apply jJ|(apply jE;exact rfl)|(apply jp;exact rfl)|(apply jc;kernel_rfl)|((first|apply kf|apply kn|apply ke|apply kx|apply kc|apply kb);iterate 2 exact rfl)|((first|apply kz|apply ky);(·exact rfl);(·repeat(first|exact iO|exact iR rfl|apply iT));iterate 2 exact rfl)|(apply kg;iterate 2 exact rfl)|(apply kG;iterate 3 exact rfl)|(apply kB;(iterate 2 exact rfl);intro _)|(apply kA;exact rfl;intro _)|(apply kK;(iterate 4 exact rfl);intro _)|(apply kU;(iterate 2 exact rfl);(·repeat(first|exact sH _ _ _|apply sT));(first|exact nfL_eq rfl|exact rfl);exact rfl)|((first|apply kh|apply kl);(iterate 2 exact rfl);(first|decide|omega);exact rfl)|((first|(apply kR;iterate 2 exact rfl)|(apply kQ;exact rfl));all_goals(intro hc;try simp only[hcs]at hc;try(exfalso;first|contradiction|omega))))
  apply DW.quiet [0, 1, 2, 3, 4, 5, 6, 7, 8, 9, 10, 11]
  · decide +kernel
  · first | exact fun _ h => h | exact fun _ h => St.sub h (by repeat (first | exact List.Sublist.refl _ | apply List.Sublist.cons))
  repeat'(first|(apply yp;iterate 3 exact rfl)|(apply QL.ev;(·exact rfl);(·first|((first|apply Ez|apply Ey);(·exact rfl);(·repeat(first|exact iO|exact iR rfl|apply iT));exact rfl)|((first|apply Ev.fieldAddr|apply Ev.len|apply EqOf.eq|apply EqOf.ne|apply Ev.conv|apply Ev.buildN);exact rfl)|((first|apply Ev.shr|apply Ev.shl);(iterate 2 exact rfl);first|decide|omega));·exact rfl)|(apply yq;iterate 5 exact rfl)|(apply QL.evg;(iterate 3 exact rfl);(·first|((first|apply Ez|apply Ey);(·exact rfl);(·repeat(first|exact iO|exact iR rfl|apply iT));exact rfl)|((first|apply Ev.fieldAddr|apply Ev.len|apply EqOf.eq|apply EqOf.ne|apply Ev.conv|apply Ev.buildN);exact rfl)|((first|apply Ev.shr|apply Ev.shl);(iterate 2 exact rfl);first|decide|omega));·exact rfl)|(apply yn;iterate 4 exact rfl)|apply QL.nil)
  show DW _ _ _ _ _ _ _ _
  apply DW.loud 12
  · exact rfl
  · decide +kernel
  repeat'(first|(apply kg;iterate 2 exact rfl)|(apply kG;iterate 3 exact rfl)|apply kM|(apply kp;iterate 2 exact rfl)|((first|apply kz|apply ky);(·exact rfl);(·repeat(first|exact iO|exact iR rfl|apply iT));iterate 2 exact rfl)|(apply kK;(iterate 4 exact rfl);intro _)|(apply kU;(iterate 2 exact rfl);(·repeat(first|exact sH _ _ _|apply sT));(first|exact nfL_eq rfl|exact rfl);exact rfl)|(apply kB;(iterate 2 exact rfl);intro _)|(apply kA;exact rfl;intro _)|(apply LR.qcall; (· exact rfl); (· intro w1 h1; first | exact CallsTo.q (c19 _ _ _ _ [2, 3, 0, 0, 0, 0, 0, 0, 5, 2, 1, 7, 0] [2, 3, 0, 0, 0, 0, 0, 0, 5, 2, 1, 7, 0] w1 (h1.rd_of_own (by (repeat (first | exact mH _ _ | apply mT)))) (h1.rd_of_blk (by (repeat (first | exact mH _ _ | apply mT)))) (by simp)) h1 | exact CallsTo.q (c19 _ _ _ _ [1, 1, 9, 2, 0, 1, 130, 1, 1, 0, 0, 0, 0, 1, 65] [1, 1, 9, 2, 0, 1, 130, 1, 1, 0, 0, 0, 0, 1, 65] w1 (h1.rd_of_own (by (repeat (first | exact mH _ _ | apply mT)))) (h1.rd_of_blk (by (repeat (first | exact mH _ _ | apply mT)))) (by simp)) h1)))
  refine At.stage_same (fun _ h => St.sub h (by repeat (first | exact List.Sublist.refl _ | apply List.Sublist.cons))) ?_
  apply DW.loud 13
  · exact rfl
  · decide +kernel
  repeat'(first|(apply kg;iterate 2 exact rfl)|(apply kG;iterate 3 exact rfl)|apply kM|(apply kp;iterate 2 exact rfl)|((first|apply kz|apply ky);(·exact rfl);(·repeat(first|exact iO|exact iR rfl|apply iT));iterate 2 exact rfl)|(apply kK;(iterate 4 exact rfl);intro _)|(apply kU;(iterate 2 exact rfl);(·repeat(first|exact sH _ _ _|apply sT));(first|exact nfL_eq rfl|exact rfl);exact rfl)|(apply kB;(iterate 2 exact rfl);intro _)|(apply kA;exact rfl;intro _)|(apply LR.qcall; (· exact rfl); (· intro w1 h1; first | exact CallsTo.q (c19 _ _ _ _ [2, 3, 0, 0, 0, 0, 0, 0, 5, 2, 1, 7, 0] [2, 3, 0, 0, 0, 0, 0, 0, 5, 2, 1, 7, 0] w1 (h1.rd_of_own (by (repeat (first | exact mH _ _ | apply mT)))) (h1.rd_of_blk (by (repeat (first | exact mH _ _ | apply mT)))) (by simp)) h1 | exact CallsTo.q (c19 _ _ _ _ [1, 1, 9, 2, 0, 1, 130, 1, 1, 0, 0, 0, 0, 1, 65] [1, 1, 9, 2, 0, 1, 130, 1, 1, 0, 0, 0, 0, 1, 65] w1 (h1.rd_of_own (by (repeat (first | exact mH _ _ | apply mT)))) (h1.rd_of_blk (by (repeat (first | exact mH _ _ | apply mT)))) (by simp)) h1)))
  refine At.stage_same (fun _ h => St.sub h (by repeat (first | exact List.Sublist.refl _ | apply List.Sublist.cons))) ?_
  apply DW.quiet [14, 15, 16]
  · decide +kernel
  · first | exact fun _ h => h | exact fun _ h => St.sub h (by repeat (first | exact List.Sublist.refl _ | apply List.Sublist.cons))
  repeat'(first|(apply yp;iterate 3 exact rfl)|(apply QL.ev;(·exact rfl);(·first|((first|apply Ez|apply Ey);(·exact rfl);(·repeat(first|exact iO|exact iR rfl|apply iT));exact rfl)|((first|apply Ev.fieldAddr|apply Ev.len|apply EqOf.eq|apply EqOf.ne|apply Ev.conv|apply Ev.buildN);exact rfl)|((first|apply Ev.shr|apply Ev.shl);(iterate 2 exact rfl);first|decide|omega));·exact rfl)|(apply yq;iterate 5 exact rfl)|(apply QL.evg;(iterate 3 exact rfl);(·first|((first|apply Ez|apply Ey);(·exact rfl);(·repeat(first|exact iO|exact iR rfl|apply iT));exact rfl)|((first|apply Ev.fieldAddr|apply Ev.len|apply EqOf.eq|apply EqOf.ne|apply Ev.conv|apply Ev.buildN);exact rfl)|((first|apply Ev.shr|apply Ev.shl);(iterate 2 exact rfl);first|decide|omega));·exact rfl)|(apply yn;iterate 4 exact rfl)|apply QL.nil)
  show DW _ _ _ _ _ _ _ _
  apply DW.loud 17
  · exact rfl
  · decide +kernel
  repeat'(first|(apply kg;iterate 2 exact rfl)|(apply kG;iterate 3 exact rfl)|apply kM|(apply kp;iterate 2 exact rfl)|((first|apply kz|apply ky);(·exact rfl);(·repeat(first|exact iO|exact iR rfl|apply iT));iterate 2 exact rfl)|(apply kK;(iterate 4 exact rfl);intro _)|(apply kU;(iterate 2 exact rfl);(·repeat(first|exact sH _ _ _|apply sT));(first|exact nfL_eq rfl|exact rfl);exact rfl)|(apply kB;(iterate 2 exact rfl);intro _)|(apply kA;exact rfl;intro _)|(apply LR.qcall; (· exact rfl); (· intro w1 h1; first | exact CallsTo.q (c19 _ _ _ _ [2, 3, 0, 0, 0, 0, 0, 0, 5, 2, 1, 7, 0] [2, 3, 0, 0, 0, 0, 0, 0, 5, 2, 1, 7, 0] w1 (h1.rd_of_own (by (repeat (first | exact mH _ _ | apply mT)))) (h1.rd_of_blk (by (repeat (first | exact mH _ _ | apply mT)))) (by simp)) h1 | exact CallsTo.q (c19 _ _ _ _ [1, 1, 9, 2, 0, 1, 130, 1, 1, 0, 0, 0, 0, 1, 65] [1, 1, 9, 2, 0, 1, 130, 1, 1, 0, 0, 0, 0, 1, 65] w1 (h1.rd_of_own (by (repeat (first | exact mH _ _ | apply mT)))) (h1.rd_of_blk (by (repeat (first | exact mH _ _ | apply mT)))) (by simp)) h1)))
  refine At.stage_same (fun _ h => St.sub h (by repeat (first | exact List.Sublist.refl _ | apply List.Sublist.cons))) ?_
  apply DW.loud 18
  · exact rfl
  · decide +kernel
  repeat'(first|(apply kg;iterate 2 exact rfl)|(apply kG;iterate 3 exact rfl)|apply kM|(apply kp;iterate 2 exact rfl)|((first|apply kz|apply ky);(·exact rfl);(·repeat(first|exact iO|exact iR rfl|apply iT));iterate 2 exact rfl)|(apply kK;(iterate 4 exact rfl);intro _)|(apply kU;(iterate 2 exact rfl);(·repeat(first|exact sH _ _ _|apply sT));(first|exact nfL_eq rfl|exact rfl);exact rfl)|(apply kB;(iterate 2 exact rfl);intro _)|(apply kA;exact rfl;intro _)|(apply LR.qcall; (· exact rfl); (· intro w1 h1; first | exact CallsTo.q (c19 _ _ _ _ [2, 3, 0, 0, 0, 0, 0, 0, 5, 2, 1, 7, 0] [2, 3, 0, 0, 0, 0, 0, 0, 5, 2, 1, 7, 0] w1 (h1.rd_of_own (by (repeat (first | exact mH _ _ | apply mT)))) (h1.rd_of_blk (by (repeat (first | exact mH _ _ | apply mT)))) (by simp)) h1 | exact CallsTo.q (c19 _ _ _ _ [1, 1, 9, 2, 0, 1, 130, 1, 1, 0, 0, 0, 0, 1, 65] [1, 1, 9, 2, 0, 1, 130, 1, 1, 0, 0, 0, 0, 1, 65] w1 (h1.rd_of_own (by (repeat (first | exact mH _ _ | apply mT)))) (h1.rd_of_blk (by (repeat (first | exact mH _ _ | apply mT)))) (by simp)) h1)))
  refine At.stage_same (fun _ h => St.sub h (by repeat (first | exact List.Sublist.refl _ | apply List.Sublist.cons))) ?_
  apply DW.quiet [19, 20, 21]
  · decide +kernel
  · first | exact fun _ h => h | exact fun _ h => St.sub h (by repeat (first | exact List.Sublist.refl _ | apply List.Sublist.cons))
  repeat'(first|(apply yp;iterate 3 exact rfl)|(apply QL.ev;(·exact rfl);(·first|((first|apply Ez|apply Ey);(·exact rfl);(·repeat(first|exact iO|exact iR rfl|apply iT));exact rfl)|((first|apply Ev.fieldAddr|apply Ev.len|apply EqOf.eq|apply EqOf.ne|apply Ev.conv|apply Ev.buildN);exact rfl)|((first|apply Ev.shr|apply Ev.shl);(iterate 2 exact rfl);first|decide|omega));·exact rfl)|(apply yq;iterate 5 exact rfl)|(apply QL.evg;(iterate 3 exact rfl);(·first|((first|apply Ez|apply Ey);(·exact rfl);(·repeat(first|exact iO|exact iR rfl|apply iT));exact rfl)|((first|apply Ev.fieldAddr|apply Ev.len|apply EqOf.eq|apply EqOf.ne|apply Ev.conv|apply Ev.buildN);exact rfl)|((first|apply Ev.shr|apply Ev.shl);(iterate 2 exact rfl);first|decide|omega));·exact rfl)|(apply yn;iterate 4 exact rfl)|apply QL.nil)
  show DW _ _ _ _ _ _ _ _
  apply DW.loud 22
  · exact rfl
  · kernel_rfl
  repeat'(first|(apply kp;iterate 2 exact rfl)|apply jJ|(apply jE;exact rfl)|(apply jp;exact rfl)|(apply jc;kernel_rfl)|((first|apply kf|apply kn|apply ke|apply kx|apply kc|apply kb);iterate 2 exact rfl)|((first|apply kz|apply ky);(·exact rfl);(·repeat(first|exact iO|exact iR rfl|apply iT));iterate 2 exact rfl)|(apply kg;iterate 2 exact rfl)|(apply kG;iterate 3 exact rfl)|(apply kB;(iterate 2 exact rfl);intro _)|(apply kA;exact rfl;intro _)|(apply kK;(iterate 4 exact rfl);intro _)|(apply kU;(iterate 2 exact rfl);(·repeat(first|exact sH _ _ _|apply sT));(first|exact nfL_eq rfl|exact rfl);exact rfl)|((first|apply kh|apply kl);(iterate 2 exact rfl);(first|decide|omega);exact rfl)|((first|(apply kR;iterate 2 exact rfl)|(apply kQ;exact rfl));all_goals(intro hc;try simp only[hcs]at hc;try(exfalso;first|contradiction|omega))))
  apply LR.call
  · exact rfl
  intro w1 h1
  refine (c37 w1).mono ?_
  rintro v w2 ⟨at4, ct4, rfl, hn⟩
  refine LR.back (h1.newSl hn) ?_
  clear hn h1
  repeat'(first|(apply kp;iterate 2 exact rfl)|apply jJ|(apply jE;exact rfl)|(apply jp;exact rfl)|(apply jc;kernel_rfl)|((first|apply kf|apply kn|apply ke|apply kx|apply kc|apply kb);iterate 2 exact rfl)|((first|apply kz|apply ky);(·exact rfl);(·repeat(first|exact iO|exact iR rfl|apply iT));iterate 2 exact rfl)|(apply kg;iterate 2 exact rfl)|(apply kG;iterate 3 exact rfl)|(apply kB;(iterate 2 exact rfl);intro _)|(apply kA;exact rfl;intro _)|(apply kK;(iterate 4 exact rfl);intro _)|(apply kU;(iterate 2 exact rfl);(·repeat(first|exact sH _ _ _|apply sT));(first|exact nfL_eq rfl|exact rfl);exact rfl)|((first|apply kh|apply kl);(iterate 2 exact rfl);(first|decide|omega);exact rfl)|((first|(apply kR;iterate 2 exact rfl)|(apply kQ;exact rfl));all_goals(intro hc;try simp only[hcs]at hc;try(exfalso;first|contradiction|omega))))
  refine At.stage_same (fun _ h => St.sub h (by repeat (first | exact List.Sublist.refl _ | apply List.Sublist.cons))) ?_
  apply DW.loud 23
  · exact rfl
  · decide +kernel
  repeat'(first|(apply kg;iterate 2 exact rfl)|(apply kG;iterate 3 exact rfl)|apply kM|(apply kp;iterate 2 exact rfl)|((first|apply kz|apply ky);(·exact rfl);(·repeat(first|exact iO|exact iR rfl|apply iT));iterate 2 exact rfl)|(apply kK;(iterate 4 exact rfl);intro _)|(apply kU;(iterate 2 exact rfl);(·repeat(first|exact sH _ _ _|apply sT));(first|exact nfL_eq rfl|exact rfl);exact rfl)|(apply kB;(iterate 2 exact rfl);intro _)|(apply kA;exact rfl;intro _)|(apply LR.qcall; (· exact rfl); (· intro w1 h1; have hq := CallsTo.q (c30 textM textM a3 at4 c3 ct4 w1 (h1.rd_of_own (by (repeat (first | exact mH _ _ | apply mT)))) (h1.rd_of_own (by (repeat (first | exact mH _ _ | apply mT)))) (by simp [textM])) h1; rw [sameB_self] at hq; show CallsTo Try.prog 30 [textM.val a3 c3, textM.val at4 ct4] w1 _; exact hq)))
  refine At.stage_same (fun _ h => St.sub h (by repeat (first | exact List.Sublist.refl _ | apply List.Sublist.cons))) ?_
  apply DW.quiet [24, 25]
  · decide +kernel
  · first | exact fun _ h => h | exact fun _ h => St.sub h (by repeat (first | exact List.Sublist.refl _ | apply List.Sublist.cons))
  repeat'(first|(apply yp;iterate 3 exact rfl)|(apply QL.ev;(·exact rfl);(·first|((first|apply Ez|apply Ey);(·exact rfl);(·repeat(first|exact iO|exact iR rfl|apply iT));exact rfl)|((first|apply Ev.fieldAddr|apply Ev.len|apply EqOf.eq|apply EqOf.ne|apply Ev.conv|apply Ev.buildN);exact rfl)|((first|apply Ev.shr|apply Ev.shl);(iterate 2 exact rfl);first|decide|omega));·exact rfl)|(apply yq;iterate 5 exact rfl)|(apply QL.evg;(iterate 3 exact rfl);(·first|((first|apply Ez|apply Ey);(·exact rfl);(·repeat(first|exact iO|exact iR rfl|apply iT));exact rfl)|((first|apply Ev.fieldAddr|apply Ev.len|apply EqOf.eq|apply EqOf.ne|apply Ev.conv|apply Ev.buildN);exact rfl)|((first|apply Ev.shr|apply Ev.shl);(iterate 2 exact rfl);first|decide|omega));·exact rfl)|(apply yn;iterate 4 exact rfl)|apply QL.nil)
  show DW _ _ _ _ _ _ _ _
  apply DW.done_thn
  · kernel_rfl
  repeat'(first|(apply kp;iterate 2 exact rfl)|apply jJ|(apply jE;exact rfl)|(apply jp;exact rfl)|(apply jc;kernel_rfl)|((first|apply kf|apply kn|apply ke|apply kx|apply kc|apply kb);iterate 2 exact rfl)|((first|apply kz|apply ky);(·exact rfl);(·repeat(first|exact iO|exact iR rfl|apply iT));iterate 2 exact rfl)|(apply kg;iterate 2 exact rfl)|(apply kG;iterate 3 exact rfl)|(apply kB;(iterate 2 exact rfl);intro _)|(apply kA;exact rfl;intro _)|(apply kK;(iterate 4 exact rfl);intro _)|(apply kU;(iterate 2 exact rfl);(·repeat(first|exact sH _ _ _|apply sT));(first|exact nfL_eq rfl|exact rfl);exact rfl)|((first|apply kh|apply kl);(iterate 2 exact rfl);(first|decide|omega);exact rfl)|((first|(apply kR;iterate 2 exact rfl)|(apply kQ;exact rfl));all_goals(intro hc;try simp only[hcs]at hc;try(exfalso;first|contradiction|omega))))
  (apply ret1; (· exact rfl); intro w' hS)
  exact ⟨rfl, hS.toKeep⟩
end Go.Proofs.Ytomlgnncncjmaaa

namespace Go.Proofs.Ytomlgnncncjmaaa
open Go.Hb Go.ChangeShapes Go.WideShapes
attribute [local irreducible] LR CW At Ev thn blk finK noG again CallsTo DW QL dnext
set_option linter.unusedSimpArgs false
set_option linter.unusedVariables false
set_option maxRecDepth 100000

theorem own_knob : ownKnob Try.prog.godebug = none := by kernel_rfl
theorem kids : Kids Try.prog (· < Try.prog.types.size) := kids_rows (by kernel_rfl) (by kernel_rfl)
theorem full_slices : ∀ t e, t < Try.prog.types.size → Try.prog.underlying t = some (.slice e) → 0 < Try.prog.cellsOf e := slices_full_of _ (by kernel_rfl)

def i64G : World → List Value → Prop := fun _ cs => ∃ n, cs = [.int .i64 n] ∧ i64 n
theorem opn_i64 : Opn Try.prog 3 i64G := (opn_int Try.underlying3).mono fun w cs ⟨n, h1, h2⟩ => ⟨n, h1, bounds_i64 h2⟩
theorem opn_u8 : Opn Try.prog 5 (fun _ cs => ∃ n, cs = [.int .u8 n] ∧ 0 ≤ n ∧ n < 256) := (opn_int Try.underlying5).mono fun w cs ⟨n, h1, h2⟩ => ⟨n, h1, (bounds_u8 h2).1, by have := (bounds_u8 h2).2; omega⟩
theorem opn_ring : Opn Try.prog 23 (fun _ cs => ∃ s r, cs = [.int .i64 s, .int .i64 r] ∧ i64 s ∧ i64 r) := by
  refine (opn_struct Try.underlying23).mono fun w cs ⟨hl, h⟩ => ?_
  have hl : cs.length = 2 := hl
  match cs, hl with
  | [x, y], _ =>
    obtain ⟨a, ha, ha2⟩ := h 0 _ rfl _ opn_i64
    obtain ⟨b, hb, hb2⟩ := h 1 _ rfl _ opn_i64
    have ha : [x] = [Value.int .i64 a] := ha
    have hb : [y] = [Value.int .i64 b] := hb
    exact ⟨a, b, by rw [List.singleton_inj] at ha hb; rw [ha, hb], ha2, hb2⟩
theorem opn_plc : Opn Try.prog 57 (fun _ cs => ∃ p : Plc, cs = p.cells ∧ i64 p.ring ∧ i64 p.seq ∧ i64 p.rep ∧ i64 p.members) := by
  refine (opn_struct Try.underlying57).mono fun w cs ⟨hl, h⟩ => ?_
  have hl : cs.length = 4 := hl
  match cs, hl with
  | [x, y, z, u], _ =>
    obtain ⟨a, ha, ha2⟩ := h 0 _ rfl _ opn_i64
    obtain ⟨b, c, hb, hb2, hc2⟩ := h 1 _ rfl _ opn_ring
    obtain ⟨d, hd, hd2⟩ := h 2 _ rfl _ opn_i64
    have ha : [x] = [Value.int .i64 a] := ha
    have hb : [y, z] = [Value.int .i64 b, .int .i64 c] := hb
    have hd : [u] = [Value.int .i64 d] := hd
    simp only [List.cons.injEq, and_true] at ha hb hd
    exact ⟨⟨a, b, c, d⟩, by rw [ha, hb.1, hb.2, hd]; rfl, ha2, hb2, hc2, hd2⟩
theorem plcs_of : ∀ (css : List (List Value)), (∀ c ∈ css, ∃ p : Plc, c = p.cells ∧ i64 p.ring ∧ i64 p.seq ∧ i64 p.rep ∧ i64 p.members) → ∃ ps : List Plc, css.flatten = pcs ps ∧ ps.length = css.length ∧ plcsI ps
  | [], _ => ⟨[], rfl, rfl, fun p hp => by simp at hp⟩
  | c :: r, h => by
    obtain ⟨p, rfl, hp⟩ := h c List.mem_cons_self
    obtain ⟨ps, h1, h2, h3⟩ := plcs_of r fun c hc => h c (List.mem_cons_of_mem _ hc)
    refine ⟨p :: ps, by rw [List.flatten_cons, h1]; rfl, by simp [h2], fun q hq => ?_⟩
    rcases List.mem_cons.1 hq with rfl | hq
    · exact hp
    · exact h3 q hq
theorem opn_plcs : Opn Try.prog 41 (fun w cs => ∃ (a : Option Addr) (c : Nat) (ps : List Plc), cs = [.slice a ps.length c] ∧ Rd w a (pcs ps) ∧ plcsI ps ∧ (a = none → c = 0) ∧ ps.length ≤ c ∧ ps.length * 32 ≤ 140737488351232) := by
  refine (opn_slice Try.underlying41 (sz := 4) (by_ := 32) (by kernel_rfl) (by omega) (by kernel_rfl) opn_plc).mono ?_
  rintro w cs ⟨a, len, cap, css, rfl, rfl, hg, hr, hz, hc, hm⟩
  obtain ⟨ps, h1, h2, h3⟩ := plcs_of css fun c hc => (hg c hc).1
  rw [h1] at hr
  exact ⟨a, cap, ps, by rw [h2], hr, h3, hz, by omega, by rw [h2]; exact hm⟩
theorem bytes_of : ∀ (css : List (List Value)), (∀ c ∈ css, ∃ n : Int, c = [.int .u8 n] ∧ 0 ≤ n ∧ n < 256) → ∃ l : List Int, css.flatten = bv l ∧ l.length = css.length ∧ Byt l
  | [], _ => ⟨[], rfl, rfl, fun p hp => by simp at hp⟩
  | c :: r, h => by
    obtain ⟨n, rfl, hp⟩ := h c List.mem_cons_self
    obtain ⟨l, h1, h2, h3⟩ := bytes_of r fun c hc => h c (List.mem_cons_of_mem _ hc)
    refine ⟨n :: l, by rw [List.flatten_cons, h1]; rfl, by simp [h2], fun q hq => ?_⟩
    rcases List.mem_cons.1 hq with rfl | hq
    · exact hp
    · exact h3 q hq
theorem opn_bytes : Opn Try.prog 26 (fun w cs => ∃ (a : Option Addr) (c : Nat) (l : List Int), cs = [.slice a l.length c] ∧ Rd w a (bv l) ∧ Byt l ∧ (a = none → c = 0) ∧ l.length ≤ c ∧ l.length ≤ 140737488351232) := by
  refine (opn_slice Try.underlying26 (sz := 1) (by_ := 1) (by kernel_rfl) (by omega) (by kernel_rfl) opn_u8).mono ?_
  rintro w cs ⟨a, len, cap, css, rfl, rfl, hg, hr, hz, hc, hm⟩
  obtain ⟨l, h1, h2, h3⟩ := bytes_of css fun c hc => (hg c hc).1
  rw [h1] at hr
  have hm : css.length * 1 ≤ 140737488351232 := hm
  exact ⟨a, cap, l, by rw [h2], hr, h3, hz, by omega, by omega⟩

theorem charts_len (ps : List Plc) : (charts ps).1.length ≤ 200 := by
  unfold charts
  split
  · simp
  · split
    · simp
    · split
      · simp
      · have := plcsLen ps ps.length (Nat.le_refl _)
        simp only [List.take_length] at this
        unfold plcsBytes
        simp only [List.length_append] at this ⊢; omega

set_option maxHeartbeats 2000000 in
theorem c5 (a : Option Addr) (c : Nat) (ps : List Plc) (w : World) (hr : Rd w a (pcs ps)) (hz : a = none → c = 0) (hm : ps.length * 32 ≤ 140737488351232) (hi : plcsI ps) :
    CallsTo Try.prog 5 [.slice a ps.length c] w fun v w' => v = .bool true ∧ Grew w w' := by
  have hlen := charts_len ps
  refine go_in (n := 37) (St.rd1 hr) Try.func5 rfl rfl ?_
  repeat'(first|(apply kp;iterate 2 exact rfl)|apply jJ|(apply jE;exact rfl)|(apply jp;exact rfl)|(apply jc;kernel_rfl)|((first|apply kf|apply kn|apply ke|apply kx|apply kc|apply kb);iterate 2 exact rfl)|((first|apply kz|apply ky);(·exact rfl);(·repeat(first|exact iO|exact iR rfl|apply iT));iterate 2 exact rfl)|(apply kg;iterate 2 exact rfl)|(apply kG;iterate 3 exact rfl)|(apply kB;(iterate 2 exact rfl);intro _)|(apply kA;exact rfl;intro _)|(apply kK;(iterate 4 exact rfl);intro _)|(apply kU;(iterate 2 exact rfl);(·repeat(first|exact sH _ _ _|apply sT));(first|exact nfL_eq rfl|exact rfl);exact rfl)|((first|apply kh|apply kl);(iterate 2 exact rfl);(first|decide|omega);exact rfl)|(refine LR.append_nil (news := pcs ps) rfl rfl (fun w' hw' => hw'.rd_of (List.Mem.head _)) (fun hx => ⟨by subst hx; have := hr.none_nil; have h2 := pcs_length ps; rw [this] at h2; simp at h2; omega, hz hx⟩) (pcs_length ps) (by simp [pcs, Plc.cells, Value.oneCell']) (by omega) (by unfold maxLen; omega) rfl ?_; intro a' c')|((first|(apply kR;iterate 2 exact rfl)|(apply kQ;exact rfl));all_goals(intro hc;try simp only[hcs]at hc;try(exfalso;first|contradiction|omega))))
  apply LR.call
  · exact rfl
  intro w1 h1
  refine (c28 a' c' ps w1 (h1.rd_of_own (by (repeat (first | exact mH _ _ | apply mT)))) (by omega) hi).mono ?_
  rintro v w2 ⟨a1, c1, rfl, hn⟩
  refine LR.back (h1.newSl hn) ?_
  clear hn h1
  repeat'(first|(apply kp;iterate 2 exact rfl)|apply jJ|(apply jE;exact rfl)|(apply jp;exact rfl)|(apply jc;kernel_rfl)|((first|apply kf|apply kn|apply ke|apply kx|apply kc|apply kb);iterate 2 exact rfl)|((first|apply kz|apply ky);(·exact rfl);(·repeat(first|exact iO|exact iR rfl|apply iT));iterate 2 exact rfl)|(apply kg;iterate 2 exact rfl)|(apply kG;iterate 3 exact rfl)|(apply kB;(iterate 2 exact rfl);intro _)|(apply kA;exact rfl;intro _)|(apply kK;(iterate 4 exact rfl);intro _)|(apply kU;(iterate 2 exact rfl);(·repeat(first|exact sH _ _ _|apply sT));(first|exact nfL_eq rfl|exact rfl);exact rfl)|((first|apply kh|apply kl);(iterate 2 exact rfl);(first|decide|omega);exact rfl)|((first|(apply kR;iterate 2 exact rfl)|(apply kQ;exact rfl));all_goals(intro hc;try simp only[hcs]at hc;try(exfalso;first|contradiction|omega))))
  apply LR.call
  · exact rfl
  intro w1 h1
  refine (c29 a c ps w1 (h1.rd_of (by (repeat (first | exact mH _ _ | apply mT)))) (by omega) hi).mono ?_
  rintro v w2 ⟨a2, c2, rfl, hn⟩
  refine LR.back (h1.newSl hn) ?_
  clear hn h1
  repeat'(first|(apply kp;iterate 2 exact rfl)|apply jJ|(apply jE;exact rfl)|(apply jp;exact rfl)|(apply jc;kernel_rfl)|((first|apply kf|apply kn|apply ke|apply kx|apply kc|apply kb);iterate 2 exact rfl)|((first|apply kz|apply ky);(·exact rfl);(·repeat(first|exact iO|exact iR rfl|apply iT));iterate 2 exact rfl)|(apply kg;iterate 2 exact rfl)|(apply kG;iterate 3 exact rfl)|(apply kB;(iterate 2 exact rfl);intro _)|(apply kA;exact rfl;intro _)|(apply kK;(iterate 4 exact rfl);intro _)|(apply kU;(iterate 2 exact rfl);(·repeat(first|exact sH _ _ _|apply sT));(first|exact nfL_eq rfl|exact rfl);exact rfl)|((first|apply kh|apply kl);(iterate 2 exact rfl);(first|decide|omega);exact rfl)|(apply LR.qcall; (· exact rfl); (· intro w1 h1; first | exact CallsTo.q (c19 a1 a2 c1 c2 (charts ps).1 (charts ps).1 w1 (h1.rd_of_own (by (repeat (first | exact mH _ _ | apply mT)))) (h1.rd_of_own (by (repeat (first | exact mH _ _ | apply mT)))) (by omega)) h1 | exact CallsTo.q (c27 a' a c' c ps ps w1 (h1.rd_of_own (by (repeat (first | exact mH _ _ | apply mT)))) (h1.rd_of (by (repeat (first | exact mH _ _ | apply mT)))) (by omega)) h1 | exact CallsTo.q (c21 w1) h1))|((first|(apply kR;iterate 2 exact rfl)|(apply kQ;exact rfl));all_goals(intro hc;try simp only[hcs]at hc;try(exfalso;first|contradiction|omega))))
  all_goals (
    (apply ret1; (· exact rfl); intro w' hS)
    exact ⟨rfl, hS.toKeep⟩)

end Go.Proofs.Ytomlgnncncjmaaa

namespace Go.Proofs.Ytomlgnncncjmaaa
open Go.Hb
attribute [local irreducible] LR CW At Ev thn blk finK noG again CallsTo DW QL dnext
set_option linter.unusedSimpArgs false
set_option linter.unusedVariables false
set_option maxRecDepth 100000

theorem decs_split : ∀ (a b : Nat) (l : List Int), decs (a + b) l = if (decs a l).2.1 ≠ 0 then decs a l else ((decs a l).1 ++ (decs b (decs a l).2.2).1, (decs b (decs a l).2.2).2)
  | 0, b, l => by simp [decs]
  | a + 1, b, l => by
    rw [show a + 1 + b = (a + b) + 1 by omega, decs, decs]
    by_cases h : (dec l).2.2 ≠ 0
    · rw [if_pos h, if_pos h, if_pos (by simpa using h)]
    · rw [if_neg h, if_neg h, decs_split a b]
      dsimp only
      split
      · rfl
      · simp

/-- What is behind the twelve numbers. -/
def endU (ck : Msg → Int) (vs l : List Int) : Msg × Int :=
  if (octs 160 l).2.1 ≠ 0 then (zeroMsg, (octs 160 l).2.1)
  else if 0 < (octs 160 l).2.2.length ∨ ck (msgOf (vs.take 8) (vs.drop 8) (octs 160 l).1) ≠ 0 then (zeroMsg, 4)
  else (msgOf (vs.take 8) (vs.drop 8) (octs 160 l).1, 0)
/-- So many numbers are still to be read. -/
def contU (ck : Msg → Int) : Nat → List Int → List Int → Msg × Int
  | 0, vs, l => endU ck vs l
  | k + 1, vs, l => if (dec l).2.2 ≠ 0 then (zeroMsg, (dec l).2.2) else if k = 4 ∧ 1 < ((dec l).1 : Int) then (zeroMsg, 4) else contU ck k (vs ++ [((dec l).1 : Int)]) (l.drop (dec l).2.1)
theorem contU_add (ck : Msg → Int) (b : Nat) : ∀ (j : Nat) (vs l : List Int), (5 ≤ b ∨ j + b ≤ 4) → contU ck (j + b) vs l = if (decs j l).2.1 ≠ 0 then (zeroMsg, (decs j l).2.1) else contU ck b (vs ++ (decs j l).1) (decs j l).2.2
  | 0, vs, l, _ => by simp [decs]
  | j + 1, vs, l, hb => by
    rw [show j + 1 + b = (j + b) + 1 by omega, contU, decs]
    by_cases h : (dec l).2.2 ≠ 0
    · rw [if_pos h, if_pos h, if_pos (by simpa using h)]
    · rw [if_neg h, if_neg h, if_neg (by omega), contU_add ck b j _ _ (by omega)]
      simp
theorem unpackW_cont (ck : Msg → Int) (l : List Int) : unpackW ck l = contU ck 12 [] l := by
  rw [show (12 : Nat) = 7 + 5 by rfl, contU_add ck 5 7 [] l (by omega)]
  have h8 : decs 8 l = _ := decs_split 7 1 l
  unfold unpackW
  rw [h8]
  by_cases h7 : (decs 7 l).2.1 ≠ 0
  · rw [if_pos h7, if_pos h7, if_pos h7]
  · rw [if_neg h7, if_neg h7]
    have hl7 := (decs_len 7 l).2 (by simpa using h7)
    generalize (decs 7 l).2.2 = r at *
    generalize (decs 7 l).1 = vs at *
    rw [contU]
    by_cases hd : (dec r).2.2 ≠ 0
    · have e1 : decs 1 r = ([], (dec r).2.2, r.drop (dec r).2.1) := by rw [decs, if_pos hd]
      rw [e1, if_pos hd]; dsimp only; rw [if_pos hd]
    · have e1 : decs 1 r = ([((dec r).1 : Int)], 0, r.drop (dec r).2.1) := by rw [decs, if_neg hd]; rfl
      have e7 : (vs ++ [((dec r).1 : Int)]).getD 7 0 = ((dec r).1 : Int) := by simp [List.getD_eq_getElem?_getD, ← hl7]
      have e8 : (vs ++ [((dec r).1 : Int)]).length = 8 := by simp [hl7]
      rw [e1, if_neg hd]
      dsimp only
      generalize (dec r).2.1 = n at *
      generalize ((dec r).1 : Int) = x at *
      simp only [ne_eq, not_true_eq_false, if_false, List.nil_append, true_and]
      rw [e7]
      by_cases h1 : 1 < x
      · rw [if_pos h1, if_pos h1]
      · rw [if_neg h1, if_neg h1]
        have h12 := contU_add ck 0 4 (vs ++ [x]) (r.drop n) (by omega)
        rw [Nat.add_zero] at h12
        rw [h12]
        by_cases h4 : (decs 4 (r.drop n)).2.1 = 0
        rotate_left
        · simp only [h4, not_false_eq_true, if_true, ne_eq]
        · simp only [h4, not_true_eq_false, if_false, ne_eq]
          unfold contU endU
          have e9 : (vs ++ [x] ++ (decs 4 (r.drop n)).1).take 8 = vs ++ [x] := by rw [List.take_append_of_le_length (Nat.le_of_eq e8.symm), List.take_of_length_le (Nat.le_of_eq e8)]
          have e10 : (vs ++ [x] ++ (decs 4 (r.drop n)).1).drop 8 = (decs 4 (r.drop n)).1 := by rw [List.drop_append, e8, List.drop_of_length_le (Nat.le_of_eq e8)]; simp
          rw [e9, e10]

set_option maxHeartbeats 4000000 in
theorem c24 {ck : Msg → Int} (l : List Int) (hck : ∀ (m : Msg) (a : Option Addr) (c : Nat) (w : World), Rd w a (bv m.body) → (a = none → c = 0) → Byt m.body → m.body.length < l.length → CallsTo Try.prog 18 [m.val a c] w fun v w' => v = .int .i64 (ck m) ∧ Grew w w')
    (a : Option Addr) (ca : Nat) (w : World) (hr : Rd w a (bv l)) (hz : a = none → ca = 0) (hm : l.length ≤ 140737488355328) (hb : Byt l) :
    CallsTo Try.prog 24 [.slice a l.length ca] w fun v w' => ∃ a2 c2, v = .tuple [(unpackW ck l).1.val a2 c2, .int .i64 (unpackW ck l).2].toArray ∧ NewSl w w' (.slice a2 (unpackW ck l).1.body.length c2) 5 1 (unpackW ck l).1.body.length (bv (unpackW ck l).1.body) := by
  refine go_in (n := 86) (St.rd1 hr) Try.func24 rfl rfl ?_
  rw [unpackW_cont]
  have nils : ∀ w', Grew w w' → NewSl w w' (.slice none 0 0) 5 1 0 (bv []) := fun w' hg => ⟨hg, World.ownsRow_nil _ _ _ _⟩
  repeat'(first|(apply kp;iterate 2 exact rfl)|apply jJ|(apply jE;exact rfl)|(apply jp;exact rfl)|(apply jc;kernel_rfl)|((first|apply kf|apply kn|apply ke|apply kx|apply kc|apply kb);iterate 2 exact rfl)|((first|apply kz|apply ky);(·exact rfl);(·repeat(first|exact iO|exact iR rfl|apply iT));iterate 2 exact rfl)|(apply kg;iterate 2 exact rfl)|(apply kG;iterate 3 exact rfl)|(apply kB;(iterate 2 exact rfl);intro _)|(apply kA;exact rfl;intro _)|(apply kK;(iterate 4 exact rfl);intro _)|(apply kU;(iterate 2 exact rfl);(·repeat(first|exact sH _ _ _|apply sT));(first|exact nfL_eq rfl|exact rfl);exact rfl)|((first|apply kh|apply kl);(iterate 2 exact rfl);(first|decide|omega);exact rfl)|(apply LR.call; (· exact rfl); (intro w1 h1; refine (c69 a ca l w1 (h1.rd_of (by (repeat (first | exact mH _ _ | apply mT)))) hz hm).mono ?_; rintro v w2 ⟨br, a1, c1, rfl, hn⟩; refine LR.back (h1.got hn (rrA_dep _ _ _ _ _ _)) ?_; clear hn h1))|((first|(apply kR;iterate 2 exact rfl)|(apply kQ;exact rfl));all_goals(intro hc;try simp only[hcs]at hc;try(exfalso;first|contradiction|omega))))
  rename_i bz ba
  apply CW.loop [3, 6, 7, 8, 14, 15, 16, 17, 18, 19, 20, 21, 22, 23, 24, 25, 26, 27, 28, 29, 30, 31, 32, 33, 34, 35, 36] (fun s : Nat × Option Addr × Nat × List Int × List Int => s.1 ≤ 12 ∧ s.2.2.2.1.length = s.1 ∧ Byt s.2.2.2.2 ∧ s.2.2.2.2.length ≤ l.length ∧ contU ck 12 [] l = contU ck (12 - s.1) s.2.2.2.1 s.2.2.2.2) (fun s => [(6, Value.int .i64 (s.1 : Int))])
    (fun s => St w NoF [.own ba (.cells (iv s.2.2.2.1 ++ zz (12 - s.1)).toArray 103 (0, 0)), rrA 125 [] br s.2.1 s.2.2.1 s.2.2.2.2, .own bz (.cells (zeroMsg.cells none 0).toArray 28 (0, 0))]) (fun s => 12 - s.1)
  · exact fun w' hw' => ⟨(0, a1, c1, [], l), ⟨by simp, rfl, hb, by simp, rfl⟩, ⟨rfl, trivial⟩, hw'.sub (List.Sublist.cons_cons _ (List.Sublist.cons_cons _ (List.Sublist.cons_cons _ (List.nil_sublist _))))⟩
  rintro ⟨i, a3, c3, vs, l3⟩ g ⟨hi, hvs, hb3, hm3, heq⟩
  simp only at hi hvs hb3 hm3 heq ⊢
  rw [heq]
  by_cases hlt : i < 12
  · obtain ⟨q, hq⟩ : ∃ q, 12 - i = q + 1 := ⟨12 - i - 1, by omega⟩
    rw [hq] at heq ⊢
    repeat'(first|(apply kp;iterate 2 exact rfl)|apply jJ|(apply jE;exact rfl)|(apply jp;exact rfl)|(apply jc;kernel_rfl)|((first|apply kf|apply kn|apply ke|apply kx|apply kc|apply kb);iterate 2 exact rfl)|((first|apply kz|apply ky);(·exact rfl);(·repeat(first|exact iO|exact iR rfl|apply iT));iterate 2 exact rfl)|(apply kg;iterate 2 exact rfl)|(apply kG;iterate 3 exact rfl)|(apply kB;(iterate 2 exact rfl);intro _)|(apply kA;exact rfl;intro _)|(apply kK;(iterate 4 exact rfl);intro _)|(apply kU;(iterate 2 exact rfl);(·repeat(first|exact sH _ _ _|apply sT));(first|exact nfL_eq rfl|exact rfl);exact rfl)|((first|apply kh|apply kl);(iterate 2 exact rfl);(first|decide|omega);exact rfl)|(apply LR.ev; (· apply Ev.indexArr; (· exact rfl); (· exact rfl); (· first | decide | omega | (dsimp only; omega)); (· first | decide | omega | (dsimp only; omega))); (· exact rfl))|(apply LR.call; (· exact rfl); (intro w1 h1; refine (c70 _ _ _ l3 w1 h1.g1 hb3 (by omega)).mono ?_; rintro v w2 ⟨a4, c4, rfl, st⟩; refine LR.back (h1.did (Sel.tail _ (Sel.head _ _ _)) rfl st (rrA_dep _ _ _ _ _ _)) ?_; clear st h1))|((first|(apply kR;iterate 2 exact rfl)|(apply kQ;exact rfl));all_goals(intro hc;try simp only[hcs]at hc;try(exfalso;first|contradiction|omega))))
    · (apply ret2c; (· exact rfl); (· exact inferInstance); (· exact rfl); (· (repeat (first | exact List.Mem.head _ | apply List.Mem.tail))); (· exact rfl); intro w' hS)
      have e : contU ck (q + 1) vs l3 = (zeroMsg, (dec l3).2.2) := by rw [contU, if_pos hc]
      rw [e]
      exact ⟨none, 0, rfl, nils w' hS.toKeep⟩
    · (apply ret2c; (· exact rfl); (· exact inferInstance); (· exact rfl); (· (repeat (first | exact List.Mem.head _ | apply List.Mem.tail))); (· exact rfl); intro w' hS)
      rename (dec l3).2.2 = 0 => hd
      rename ((i : Int) = 7) => hi7
      have e : contU ck (q + 1) vs l3 = (zeroMsg, 4) := by rw [contU, if_neg (by simpa using hd), if_pos ⟨by omega, hc⟩]
      rw [e]
      exact ⟨none, 0, rfl, nils w' hS.toKeep⟩
    all_goals (
      rename (dec l3).2.2 = 0 => hd
      have e : contU ck (q + 1) vs l3 = contU ck q (vs ++ [((dec l3).1 : Int)]) (l3.drop (dec l3).2.1) := by rw [contU, if_neg (by simpa using hd), if_neg (by omega)]
      refine LR.store_obj (v := .int .i64 ((dec l3).1 : Int)) (z' := .own ba (.cells (iv (vs ++ [((dec l3).1 : Int)]) ++ zz q).toArray 103 (0, 0))) rfl rfl (sH _ _ _) rfl ?_ (Asrt.dep_own _ _) ?_
      · have st := Stores.own (P := Try.prog) (T := 3) (m := 1) (b := ba) (o := 0 + (i : Int).toNat * 1) (v := .int .i64 ((dec l3).1 : Int)) (cs := iv vs ++ zz (q + 1)) (vs := [.int .i64 ((dec l3).1 : Int)]) (E := 103) inferInstance rfl rfl rfl (by
          simp [hvs, zz])
        have e2 : zz (q + 1) = .int .i64 0 :: zz q := rfl
        rw [e2, splice_mid _ _ _ _ (by simp [hvs])] at st
        rw [e2]
        simpa [iv] using st
      repeat'(first|(apply kp;iterate 2 exact rfl)|apply jJ|(apply jE;exact rfl)|(apply jp;exact rfl)|(apply jc;kernel_rfl)|((first|apply kf|apply kn|apply ke|apply kx|apply kc|apply kb);iterate 2 exact rfl)|((first|apply kz|apply ky);(·exact rfl);(·repeat(first|exact iO|exact iR rfl|apply iT));iterate 2 exact rfl)|(apply kg;iterate 2 exact rfl)|(apply kG;iterate 3 exact rfl)|(apply kB;(iterate 2 exact rfl);intro _)|(apply kA;exact rfl;intro _)|(apply kK;(iterate 4 exact rfl);intro _)|(apply kU;(iterate 2 exact rfl);(·repeat(first|exact sH _ _ _|apply sT));(first|exact nfL_eq rfl|exact rfl);exact rfl)|((first|apply kh|apply kl);(iterate 2 exact rfl);(first|decide|omega);exact rfl)|(apply addX;(iterate 2 exact rfl);(iterate 2(first|omega|(dsimp only;omega)));exact rfl)|((first|(apply kR;iterate 2 exact rfl)|(apply kQ;exact rfl));all_goals(intro hc;try simp only[hcs]at hc;try(exfalso;first|contradiction|omega))))
      apply At.again (i + 1, a4, c4, vs ++ [((dec l3).1 : Int)], l3.drop (dec l3).2.1)
      · refine ⟨by show i + 1 ≤ _; omega, by simp [hvs], hb3.drop _, by simp; omega, ?_⟩
        show contU ck (q + 1) vs l3 = _
        rw [e, show 12 - (i + 1) = q by omega]
      · (repeat (first | exact Out.refl _ _ | exact Out.mix | (apply Out.upd; (· exact rfl)) | (apply Out.updL; (· exact rfl)) | (apply Out.mixs; (· exact rfl))))
      · exact ⟨rfl, trivial⟩
      · intro w' hw'
        simp only [show 12 - (i + 1) = q by omega]
        exact hw'
      · show 12 - (i + 1) < 12 - i; omega)
  · have hi12 : i = 12 := by omega
    subst hi12
    obtain ⟨v0, v1, v2, v3, v4, v5, v6, v7, x0, x1, x2, x3, rfl⟩ : ∃ v0 v1 v2 v3 v4 v5 v6 v7 x0 x1 x2 x3, vs = [v0, v1, v2, v3, v4, v5, v6, v7, x0, x1, x2, x3] := by
      match vs, hvs with
      | [a, b, c, d, e, f, g, h, i, j, k, l], _ => exact ⟨a, b, c, d, e, f, g, h, i, j, k, l, rfl⟩
    rw [show 12 - 12 = 0 from rfl, contU]
    have eu : endU ck [v0, v1, v2, v3, v4, v5, v6, v7, x0, x1, x2, x3] l3 = if (octs 160 l3).2.1 ≠ 0 then (zeroMsg, (octs 160 l3).2.1)
        else if 0 < (octs 160 l3).2.2.length ∨ ck (msgOf [v0, v1, v2, v3, v4, v5, v6, v7] [x0, x1, x2, x3] (octs 160 l3).1) ≠ 0 then (zeroMsg, 4)
        else (msgOf [v0, v1, v2, v3, v4, v5, v6, v7] [x0, x1, x2, x3] (octs 160 l3).1, 0) := rfl
    rw [eu]
    repeat'(first|(apply kp;iterate 2 exact rfl)|apply jJ|(apply jE;exact rfl)|(apply jp;exact rfl)|(apply jc;kernel_rfl)|((first|apply kf|apply kn|apply ke|apply kx|apply kc|apply kb);iterate 2 exact rfl)|((first|apply kz|apply ky);(·exact rfl);(·repeat(first|exact iO|exact iR rfl|apply iT));iterate 2 exact rfl)|(apply kg;iterate 2 exact rfl)|(apply kG;iterate 3 exact rfl)|(apply kB;(iterate 2 exact rfl);intro _)|(apply kA;exact rfl;intro _)|(apply kK;(iterate 4 exact rfl);intro _)|(apply kU;(iterate 2 exact rfl);(·repeat(first|exact sH _ _ _|apply sT));(first|exact nfL_eq rfl|exact rfl);exact rfl)|((first|apply kh|apply kl);(iterate 2 exact rfl);(first|decide|omega);exact rfl)|(apply LR.call; (· exact rfl); (intro w1 h1; refine (c71 br a3 c3 l3 160 w1 h1.g1 hb3 (by omega)).mono ?_; rintro v w2 ⟨a4, c4, a5, c5, rfl, st⟩; refine LR.back (h1.did1 (Sel.tail _ (Sel.head _ _ _)) rfl rfl rfl st) ?_; clear st h1))|(apply LR.ev; (· apply Ev.indexArr; (· exact rfl); (· exact rfl); (· first | decide | omega | (dsimp only; omega)); (· first | decide | omega | (dsimp only; omega))); (· exact rfl))|((first|(apply kR;iterate 2 exact rfl)|(apply kQ;exact rfl));all_goals(intro hc;try simp only[hcs]at hc;try(exfalso;first|contradiction|omega))))
    · (apply ret2c; (· exact rfl); (· exact inferInstance); (· exact rfl); (· (repeat (first | exact List.Mem.head _ | apply List.Mem.tail))); (· exact rfl); intro w' hS)
      rw [if_pos (by assumption)]
      exact ⟨none, 0, rfl, nils w' hS.toKeep⟩
    rename (octs 160 l3).2.1 = 0 => ho
    have hof := octs_facts ho
    repeat'(first|(apply kp;iterate 2 exact rfl)|apply jJ|(apply jE;exact rfl)|(apply jp;exact rfl)|(apply jc;kernel_rfl)|((first|apply kf|apply kn|apply ke|apply kx|apply kc|apply kb);iterate 2 exact rfl)|((first|apply kz|apply ky);(·exact rfl);(·repeat(first|exact iO|exact iR rfl|apply iT));iterate 2 exact rfl)|(apply kg;iterate 2 exact rfl)|(apply kG;iterate 3 exact rfl)|(apply kB;(iterate 2 exact rfl);intro _)|(apply kA;exact rfl;intro _)|(apply kK;(iterate 4 exact rfl);intro _)|(apply kU;(iterate 2 exact rfl);(·repeat(first|exact sH _ _ _|apply sT));(first|exact nfL_eq rfl|exact rfl);exact rfl)|((first|apply kh|apply kl);(iterate 2 exact rfl);(first|decide|omega);exact rfl)|(apply kq; (· exact rfl); (· intro w1 h1; exact CallsTo.q (c72 br _ _ _ w1 h1.g3) h1))|(apply kq; (· exact rfl); (· intro w1 h1; have hq := CallsTo.q (hck (msgOf [v0, v1, v2, v3, v4, v5, v6, v7] [x0, x1, x2, x3] (octs 160 l3).1) a5 c5 w1 (ownsRow_rd h1.g1) (fun e => (ownsRow_some h1.g1 e).2) (fun b hb' => hb3 b (hof.2 b hb')) (Nat.lt_of_lt_of_le hof.1 hm3)) h1; show CallsTo Try.prog 18 [(msgOf [v0, v1, v2, v3, v4, v5, v6, v7] [x0, x1, x2, x3] (octs 160 l3).1).val a5 c5] w1 _; exact hq))|((first|(apply kR;iterate 2 exact rfl)|(apply kQ;exact rfl));all_goals(intro hc;try simp only[hcs]at hc;try(exfalso;first|contradiction|omega))))
    · (apply ret2c; (· exact rfl); (· exact inferInstance); (· exact rfl); (· (repeat (first | exact List.Mem.head _ | apply List.Mem.tail))); (· exact rfl); intro w' hS)
      rw [if_neg (by simpa using ho), if_pos (.inl (by omega))]
      exact ⟨none, 0, rfl, nils w' hS.toKeep⟩
    · (apply ret2c; (· exact rfl); (· exact inferInstance); (· exact rfl); (· (repeat (first | exact List.Mem.head _ | apply List.Mem.tail))); (· exact rfl); intro w' hS)
      rw [if_neg (by simpa using ho), if_pos (.inr (by assumption))]
      exact ⟨none, 0, rfl, nils w' hS.toKeep⟩
    · rename ck _ = 0 => hck0
      (apply ret2c; (· exact rfl); (· exact inferInstance); (· exact rfl); (· (repeat (first | exact List.Mem.head _ | apply List.Mem.tail))); (· exact rfl); intro w' hS)
      rw [if_neg (by simpa using ho), if_neg (by simp only [not_or, Nat.not_lt]; exact ⟨by omega, by simpa using hck0⟩)]
      exact ⟨a5, c5, rfl, hS.toNew (mT _ (mH _ _))⟩

theorem unp_all2 : ∀ K, UnpC 24 K
  | 0 => fun a ca l w hr hz hm hb hK => c24 (ck := fun _ => 2) l (fun m a c w _ _ _ h => by omega) a ca w hr hz hm hb
  | K + 1 => fun a ca l w hr hz hm hb hK => c24 (ck := checkM (unpackF K)) l (fun m a c w h1 h2 h3 h4 => c18 (unp_all2 K) m a c w h1 h2 (by omega) h3 (fun _ => by omega)) a ca w hr hz hm hb
theorem d24 (a : Option Addr) (ca : Nat) (l : List Int) (w : World) (hr : Rd w a (bv l)) (hz : a = none → ca = 0) (hm : l.length ≤ 140737488355328) (hb : Byt l) :
    CallsTo Try.prog 24 [.slice a l.length ca] w fun v w' => ∃ a2 c2, v = .tuple [(unpack l).1.val a2 c2, .int .i64 (unpack l).2].toArray ∧ NewSl w w' (.slice a2 (unpack l).1.body.length c2) 5 1 (unpack l).1.body.length (bv (unpack l).1.body) :=
  unp_all2 l.length a ca l w hr hz hm hb (Nat.le_refl _)
theorem d18 (m : Msg) (a : Option Addr) (c : Nat) (w : World) (hr : Rd w a (bv m.body)) (hz : a = none → c = 0) (hm : m.body.length ≤ 140737488355328) (hb : Byt m.body) :
    CallsTo Try.prog 18 [m.val a c] w fun v w' => v = .int .i64 (check m) ∧ Grew w w' := by
  have := c18 (unp_all2 m.body.length) m a c w hr hz hm hb (fun _ => Nat.le_refl _)
  rwa [check_of (Nat.le_refl _)] at this
end Go.Proofs.Ytomlgnncncjmaaa

namespace Go.Proofs.Ytomlgnncncjmaaa
open Go.Hb
attribute [local irreducible] LR CW At Ev thn blk finK noG again CallsTo DW QL dnext
set_option linter.unusedSimpArgs false
set_option linter.unusedVariables false
set_option maxRecDepth 100000

set_option maxHeartbeats 2000000 in
theorem c57 (m : Msg) (a : Option Addr) (c : Nat) (w : World) (hr : Rd w a (bv m.body)) (hz : a = none → c = 0) (hck : check m = 0) :
    CallsTo Try.prog 57 [m.val a c] w fun v w' => NewB w w' v (bytesM m) := by
  have hok := msgNums_ok hck
  have h160 := (check_ok hck).1
  have hlb := bytesM_len m
  have hn12 : (msgNums m).length = 12 := rfl
  have hle : ∀ i, (encs ((msgNums m).take i)).length ≤ 108 := fun i => by
    have := encs_len ((msgNums m).take i)
    have h2 : ((msgNums m).take i).length ≤ 12 := by rw [List.length_take]; omega
    omega
  have en : msgNums m = [m.kind, m.origin, m.life, m.id, m.part, m.parts, m.groups, b2i m.safe, m.stamp, m.rseq, m.rrep, m.kseq] := rfl
  refine go_in (n := 58) (St.rd1 hr) Try.func57 rfl rfl ?_
  repeat'(first|(apply kp;iterate 2 exact rfl)|apply jJ|(apply jE;exact rfl)|(apply jp;exact rfl)|(apply jc;kernel_rfl)|((first|apply kf|apply kn|apply ke|apply kx|apply kc|apply kb);iterate 2 exact rfl)|((first|apply kz|apply ky);(·exact rfl);(·repeat(first|exact iO|exact iR rfl|apply iT));iterate 2 exact rfl)|(apply kg;iterate 2 exact rfl)|(apply kG;iterate 3 exact rfl)|(apply kB;(iterate 2 exact rfl);intro _)|(apply kA;exact rfl;intro _)|(apply kK;(iterate 4 exact rfl);intro _)|(apply kU;(iterate 2 exact rfl);(·repeat(first|exact sH _ _ _|apply sT));(first|exact nfL_eq rfl|exact rfl);exact rfl)|((first|apply kh|apply kl);(iterate 2 exact rfl);(first|decide|omega);exact rfl)|((first|(apply kR;iterate 2 exact rfl)|(apply kQ;exact rfl));all_goals(intro hc;try simp only[hcs]at hc;try(exfalso;first|contradiction|omega))))
  all_goals (
    rename m.safe = _ => hsafe
    rename_i bm bs
    rw [hsafe] at en
    apply LR.call
    · exact rfl
    intro w1 h1
    refine (c77 w1).mono ?_
    rintro v w2 ⟨bw, rfl, hn⟩
    refine LR.back (h1.got hn (wrA_dep _ _ _ _)) ?_
    clear hn h1
    repeat'(first|(apply kp;iterate 2 exact rfl)|apply jJ|(apply jE;exact rfl)|(apply jp;exact rfl)|(apply jc;kernel_rfl)|((first|apply kf|apply kn|apply ke|apply kx|apply kc|apply kb);iterate 2 exact rfl)|((first|apply kz|apply ky);(·exact rfl);(·repeat(first|exact iO|exact iR rfl|apply iT));iterate 2 exact rfl)|(apply kg;iterate 2 exact rfl)|(apply kG;iterate 3 exact rfl)|(apply kB;(iterate 2 exact rfl);intro _)|(apply kA;exact rfl;intro _)|(apply kK;(iterate 4 exact rfl);intro _)|(apply kU;(iterate 2 exact rfl);(·repeat(first|exact sH _ _ _|apply sT));(first|exact nfL_eq rfl|exact rfl);exact rfl)|((first|apply kh|apply kl);(iterate 2 exact rfl);(first|decide|omega);exact rfl)|((first|(apply kR;iterate 2 exact rfl)|(apply kQ;exact rfl));all_goals(intro hc;try simp only[hcs]at hc;try(exfalso;first|contradiction|omega))))
    apply CW.loop [6, 40, 41, 42, 43, 44, 45, 46, 47, 48, 49, 50, 51] (fun s : Nat × Option Addr × Nat => s.1 ≤ 12) (fun s => [(6, Value.int .i64 (s.1 : Int))])
      (fun s => St w NoF [wrA 127 [] bw s.2.1 s.2.2 (encs ((msgNums m).take s.1)), .own bs (.cells (iv (msgNums m)).toArray 3 (0, 0)), .own bm (.cells (m.cells a c).toArray 28 (0, 0)), rdA a (bv m.body)]) (fun s => 12 - s.1)
    · exact fun w' hw' => ⟨(0, none, 0), by simp, ⟨rfl, trivial⟩, hw'.cast (by rw [en]; rfl)⟩
    rintro ⟨i, a1, c1⟩ g hi
    simp only at hi ⊢
    have hl1 := hle i
    by_cases hlt : i < 12
    · have hx := hok _ (List.getElem_mem (show i < (msgNums m).length from hlt))
      have e1 := putE_ok hx
      have e2 := putL_ok hx
      repeat'(first|(apply kp;iterate 2 exact rfl)|apply jJ|(apply jE;exact rfl)|(apply jp;exact rfl)|(apply jc;kernel_rfl)|((first|apply kf|apply kn|apply ke|apply kx|apply kc|apply kb);iterate 2 exact rfl)|((first|apply kz|apply ky);(·exact rfl);(·repeat(first|exact iO|exact iR rfl|apply iT));iterate 2 exact rfl)|(apply kg;iterate 2 exact rfl)|(apply kG;iterate 3 exact rfl)|(apply kB;(iterate 2 exact rfl);intro _)|(apply kA;exact rfl;intro _)|(apply kK;(iterate 4 exact rfl);intro _)|(apply kU;(iterate 2 exact rfl);(·repeat(first|exact sH _ _ _|apply sT));(first|exact nfL_eq rfl|exact rfl);exact rfl)|((first|apply kh|apply kl);(iterate 2 exact rfl);(first|decide|omega);exact rfl)|(apply idxX;(iterate 2 exact rfl);(iterate 2(first|omega|(dsimp only;omega)));exact rfl)|(apply LR.ev; (· apply Ev.load_own; (· exact rfl); (· (repeat (first | exact mH _ _ | apply mT))); (· exact iv_at (l := msgNums m) (i := i) (by simp) (by omega))); (· exact rfl))|(apply LR.call; (· exact rfl); (intro w1 h1; refine (c78 _ _ _ _ _ w1 h1.g0 (by omega)).mono ?_; rintro v w2 ⟨a2, c2, rfl, st⟩; refine LR.back (h1.did (sH _ _ _) rfl st (wrA_dep _ _ _ _)) ?_; clear st h1; rw [e1, e2]))|(apply addX;(iterate 2 exact rfl);(iterate 2(first|omega|(dsimp only;omega)));exact rfl)|((first|(apply kR;iterate 2 exact rfl)|(apply kQ;exact rfl));all_goals(intro hc;try simp only[hcs]at hc;try(exfalso;first|contradiction|omega))))
      apply At.again (i + 1, a2, c2) (by show i + 1 ≤ _; omega)
      · (repeat (first | exact Out.refl _ _ | exact Out.mix | (apply Out.upd; (· exact rfl)) | (apply Out.updL; (· exact rfl)) | (apply Out.mixs; (· exact rfl))))
      · exact ⟨rfl, trivial⟩
      · intro w' hw'
        exact hw'.cast (by simp only [encs_take (show i < (msgNums m).length from hlt)])
      · show 12 - (i + 1) < 12 - i; omega
    · rw [List.take_of_length_le (by omega)] at hl1 ⊢
      repeat'(first|(apply kp;iterate 2 exact rfl)|apply jJ|(apply jE;exact rfl)|(apply jp;exact rfl)|(apply jc;kernel_rfl)|((first|apply kf|apply kn|apply ke|apply kx|apply kc|apply kb);iterate 2 exact rfl)|((first|apply kz|apply ky);(·exact rfl);(·repeat(first|exact iO|exact iR rfl|apply iT));iterate 2 exact rfl)|(apply kg;iterate 2 exact rfl)|(apply kG;iterate 3 exact rfl)|(apply kB;(iterate 2 exact rfl);intro _)|(apply kA;exact rfl;intro _)|(apply kK;(iterate 4 exact rfl);intro _)|(apply kU;(iterate 2 exact rfl);(·repeat(first|exact sH _ _ _|apply sT));(first|exact nfL_eq rfl|exact rfl);exact rfl)|((first|apply kh|apply kl);(iterate 2 exact rfl);(first|decide|omega);exact rfl)|(apply LR.call; (· exact rfl); (intro w1 h1; first | (refine (c89 bw a1 _ c1 _ _ m.body w1 h1.g0 (h1.rd_of (mT _ (mT _ (mT _ (mH _ _))))) hz (fun k hk hk2 => (front h1 3 rfl rfl).apart (x := rdA a (bv m.body)) (mH _ _) rfl k hk hk2) (by omega) (by omega)).mono ?_; rintro v w2 ⟨a3, c3, rfl, st⟩; refine LR.back (h1.did (sH _ _ _) rfl st (wrA_dep _ _ _ _)) ?_; clear st h1) | (refine (c80 bw _ _ _ w1 h1.g0 (by simp; simp [bytesM] at hlb; omega)).mono ?_; rintro v w2 ⟨a4, c4, rfl, hn⟩; refine LR.back (h1.newSl hn) ?_)))|((first|(apply kR;iterate 2 exact rfl)|(apply kQ;exact rfl));all_goals(intro hc;try simp only[hcs]at hc;try(exfalso;first|contradiction|omega))))
      (apply ret1; (· exact rfl); intro w' hS)
      exact ⟨_, _, rfl, hS.toNew (List.Mem.head _)⟩)

theorem c16 (m : Msg) (a : Option Addr) (c : Nat) (w : World) (hr : Rd w a (bv m.body)) (hz : a = none → c = 0) (hm : m.body.length ≤ 140737488355328) (hb : Byt m.body) :
    CallsTo Try.prog 16 [m.val a c] w fun v w' => ∃ a2 c2, v = .tuple [.slice a2 (pack m).1.length c2, .int .i64 (pack m).2].toArray ∧ NewSl w w' (.slice a2 (pack m).1.length c2) 5 1 (pack m).1.length (bv (pack m).1) := by
  refine go_in (n := 12) (St.rd1 hr) Try.func16 rfl rfl ?_
  have nils : ∀ w', Grew w w' → NewSl w w' (.slice none 0 0) 5 1 0 (bv []) := fun w' hg => ⟨hg, World.ownsRow_nil _ _ _ _⟩
  repeat'(first|(apply kp;iterate 2 exact rfl)|apply jJ|(apply jE;exact rfl)|(apply jp;exact rfl)|(apply jc;kernel_rfl)|((first|apply kf|apply kn|apply ke|apply kx|apply kc|apply kb);iterate 2 exact rfl)|((first|apply kz|apply ky);(·exact rfl);(·repeat(first|exact iO|exact iR rfl|apply iT));iterate 2 exact rfl)|(apply kg;iterate 2 exact rfl)|(apply kG;iterate 3 exact rfl)|(apply kB;(iterate 2 exact rfl);intro _)|(apply kA;exact rfl;intro _)|(apply kK;(iterate 4 exact rfl);intro _)|(apply kU;(iterate 2 exact rfl);(·repeat(first|exact sH _ _ _|apply sT));(first|exact nfL_eq rfl|exact rfl);exact rfl)|((first|apply kh|apply kl);(iterate 2 exact rfl);(first|decide|omega);exact rfl)|(apply LR.qcall; (· exact rfl); (· intro w1 h1; have hq := CallsTo.q (d18 m a c w1 (h1.rd_of (List.Mem.tail _ (List.Mem.head _))) hz hm hb) h1; show CallsTo Try.prog 18 [m.val a c] w1 _; exact hq))|((first|(apply kR;iterate 2 exact rfl)|(apply kQ;exact rfl));all_goals(intro hc;try simp only[hcs]at hc;try(exfalso;first|contradiction|omega))))
  · (apply ret2; (· exact rfl); intro w' hS)
    have e : pack m = ([], check m) := by unfold pack; rw [if_pos hc]
    rw [e]
    exact ⟨none, 0, rfl, nils w' hS.toKeep⟩
  · rename check m = 0 => hck
    have e : pack m = (bytesM m, 0) := by unfold pack; rw [if_neg (by simpa using hck)]
    rw [e]
    apply LR.call
    · exact rfl
    intro w1 h1
    refine CallsTo.mono (show CallsTo Try.prog 57 [m.val a c] w1 _ from c57 m a c w1 (h1.rd_of (mT _ (mH _ _))) hz hck) ?_
    rintro v w2 ⟨a2, c2, rfl, hn⟩
    refine LR.back (h1.newSl hn) ?_
    clear hn h1
    repeat'(first|(apply kp;iterate 2 exact rfl)|apply jJ|(apply jE;exact rfl)|(apply jp;exact rfl)|(apply jc;kernel_rfl)|((first|apply kf|apply kn|apply ke|apply kx|apply kc|apply kb);iterate 2 exact rfl)|((first|apply kz|apply ky);(·exact rfl);(·repeat(first|exact iO|exact iR rfl|apply iT));iterate 2 exact rfl)|(apply kg;iterate 2 exact rfl)|(apply kG;iterate 3 exact rfl)|(apply kB;(iterate 2 exact rfl);intro _)|(apply kA;exact rfl;intro _)|(apply kK;(iterate 4 exact rfl);intro _)|(apply kU;(iterate 2 exact rfl);(·repeat(first|exact sH _ _ _|apply sT));(first|exact nfL_eq rfl|exact rfl);exact rfl)|((first|apply kh|apply kl);(iterate 2 exact rfl);(first|decide|omega);exact rfl)|((first|(apply kR;iterate 2 exact rfl)|(apply kQ;exact rfl));all_goals(intro hc;try simp only[hcs]at hc;try(exfalso;first|contradiction|omega))))
    (apply ret2; (· exact rfl); intro w' hS)
    exact ⟨a2, c2, rfl, hS.toNew (mH _ _)⟩

theorem c14 (m : Msg) (a : Option Addr) (c : Nat) (w : World) (hr : Rd w a (bv m.body)) (hz : a = none → c = 0) (hm : m.body.length ≤ 140737488355328) :
    CallsTo Try.prog 14 [m.val a c] w fun v w' => ∃ a2 c2, v = m.val a2 c2 ∧ NewSl w w' (.slice a2 m.body.length c2) 5 1 m.body.length (bv m.body) := by
  refine go_in (n := 10) (St.rd1 hr) Try.func14 rfl rfl ?_
  repeat'(first|(apply kp;iterate 2 exact rfl)|apply jJ|(apply jE;exact rfl)|(apply jp;exact rfl)|(apply jc;kernel_rfl)|((first|apply kf|apply kn|apply ke|apply kx|apply kc|apply kb);iterate 2 exact rfl)|((first|apply kz|apply ky);(·exact rfl);(·repeat(first|exact iO|exact iR rfl|apply iT));iterate 2 exact rfl)|(apply kg;iterate 2 exact rfl)|(apply kG;iterate 3 exact rfl)|(apply kB;(iterate 2 exact rfl);intro _)|(apply kA;exact rfl;intro _)|(apply kK;(iterate 4 exact rfl);intro _)|(apply kU;(iterate 2 exact rfl);(·repeat(first|exact sH _ _ _|apply sT));(first|exact nfL_eq rfl|exact rfl);exact rfl)|((first|apply kh|apply kl);(iterate 2 exact rfl);(first|decide|omega);exact rfl)|(apply LR.call; (· exact rfl); (intro w1 h1; refine (c22 a c m.body w1 (h1.rd_of (by (repeat (first | exact mH _ _ | apply mT)))) hz hm).mono ?_; rintro v w2 ⟨a2, c2, rfl, hn⟩; refine LR.back (h1.newSl hn) ?_; clear hn h1))|((first|(apply kR;iterate 2 exact rfl)|(apply kQ;exact rfl));all_goals(intro hc;try simp only[hcs]at hc;try(exfalso;first|contradiction|omega))))
  (apply ret1c; (· exact rfl); (· exact inferInstance); (· exact rfl); (· (repeat (first | exact List.Mem.head _ | apply List.Mem.tail))); (· exact rfl); intro w' hS)
  exact ⟨a2, c2, rfl, hS.toNew (mH _ _)⟩
end Go.Proofs.Ytomlgnncncjmaaa

namespace Go.Proofs.Ytomlgnncncjmaaa
open Go.Hb Go.ChangeShapes Go.WideShapes
attribute [local irreducible] LR CW At Ev thn blk finK noG again CallsTo DW QL dnext
set_option linter.unusedSimpArgs false
set_option linter.unusedVariables false
set_option maxRecDepth 100000

theorem pack_len (m : Msg) : (pack m).1.length ≤ 300 := by
  unfold pack
  split
  · simp
  · rename_i h
    have h1 := (check_ok (by simpa using h)).1
    have := bytesM_len m
    simp only; omega

set_option maxHeartbeats 4000000 in
theorem c3 (m : Msg) (a : Option Addr) (c : Nat) (w : World) (hr : Rd w a (bv m.body)) (hz : a = none → c = 0) (hm : m.body.length ≤ 140737488355328) (hb : Byt m.body) :
    CallsTo Try.prog 3 [m.val a c] w fun v w' => v = .bool true ∧ Grew w w' := by
  have hlen := pack_len m
  refine go_in (n := 63) (St.rd1 hr) Try.func3 rfl rfl ?_
  repeat'(first|(apply kp;iterate 2 exact rfl)|apply jJ|(apply jE;exact rfl)|(apply jp;exact rfl)|(apply jc;kernel_rfl)|((first|apply kf|apply kn|apply ke|apply kx|apply kc|apply kb);iterate 2 exact rfl)|((first|apply kz|apply ky);(·exact rfl);(·repeat(first|exact iO|exact iR rfl|apply iT));iterate 2 exact rfl)|(apply kg;iterate 2 exact rfl)|(apply kG;iterate 3 exact rfl)|(apply kB;(iterate 2 exact rfl);intro _)|(apply kA;exact rfl;intro _)|(apply kK;(iterate 4 exact rfl);intro _)|(apply kU;(iterate 2 exact rfl);(·repeat(first|exact sH _ _ _|apply sT));(first|exact nfL_eq rfl|exact rfl);exact rfl)|((first|apply kh|apply kl);(iterate 2 exact rfl);(first|decide|omega);exact rfl)|(apply LR.call; (· exact rfl); (intro w1 h1; refine CallsTo.mono (show CallsTo Try.prog 14 [m.val a c] w1 _ from c14 m a c w1 (h1.rd_of (by (repeat (first | exact mH _ _ | apply mT)))) hz hm) ?_; rintro v w2 ⟨ai, ci, rfl, hn⟩; refine LR.back (h1.newSl hn) ?_; clear hn h1))|((first|(apply kR;iterate 2 exact rfl)|(apply kQ;exact rfl));all_goals(intro hc;try simp only[hcs]at hc;try(exfalso;first|contradiction|omega))))
  rename_i b1 b2
  apply LR.call
  · exact rfl
  intro w1 h1
  refine CallsTo.mono (show CallsTo Try.prog 15 [m.val ai ci] w1 _ from c15 m ai ci w1 (h1.rd_of_own (mT _ (mH _ _))) (fun e => (ownsRow_some h1.g1 e).2) hm hb) ?_
  rintro v w2 ⟨a1, c1, rfl, hn⟩
  refine LR.back (h1.newSl hn) ?_
  clear hn h1
  repeat'(first|(apply kp;iterate 2 exact rfl)|apply jJ|(apply jE;exact rfl)|(apply jp;exact rfl)|(apply jc;kernel_rfl)|((first|apply kf|apply kn|apply ke|apply kx|apply kc|apply kb);iterate 2 exact rfl)|((first|apply kz|apply ky);(·exact rfl);(·repeat(first|exact iO|exact iR rfl|apply iT));iterate 2 exact rfl)|(apply kg;iterate 2 exact rfl)|(apply kG;iterate 3 exact rfl)|(apply kB;(iterate 2 exact rfl);intro _)|(apply kA;exact rfl;intro _)|(apply kK;(iterate 4 exact rfl);intro _)|(apply kU;(iterate 2 exact rfl);(·repeat(first|exact sH _ _ _|apply sT));(first|exact nfL_eq rfl|exact rfl);exact rfl)|((first|apply kh|apply kl);(iterate 2 exact rfl);(first|decide|omega);exact rfl)|((first|(apply kR;iterate 2 exact rfl)|(apply kQ;exact rfl));all_goals(intro hc;try simp only[hcs]at hc;try(exfalso;first|contradiction|omega))))
  apply LR.call
  · exact rfl
  intro w1 h1
  refine CallsTo.mono (show CallsTo Try.prog 16 [m.val a c] w1 _ from c16 m a c w1 (h1.rd_of (by (repeat (first | exact mH _ _ | apply mT)))) hz hm hb) ?_
  rintro v w2 ⟨a2, c2, rfl, hn⟩
  refine LR.back (h1.newSl hn) ?_
  clear hn h1
  repeat'(first|(apply kp;iterate 2 exact rfl)|apply jJ|(apply jE;exact rfl)|(apply jp;exact rfl)|(apply jc;kernel_rfl)|((first|apply kf|apply kn|apply ke|apply kx|apply kc|apply kb);iterate 2 exact rfl)|((first|apply kz|apply ky);(·exact rfl);(·repeat(first|exact iO|exact iR rfl|apply iT));iterate 2 exact rfl)|(apply kg;iterate 2 exact rfl)|(apply kG;iterate 3 exact rfl)|(apply kB;(iterate 2 exact rfl);intro _)|(apply kA;exact rfl;intro _)|(apply kK;(iterate 4 exact rfl);intro _)|(apply kU;(iterate 2 exact rfl);(·repeat(first|exact sH _ _ _|apply sT));(first|exact nfL_eq rfl|exact rfl);exact rfl)|((first|apply kh|apply kl);(iterate 2 exact rfl);(first|decide|omega);exact rfl)|(apply kq; (· exact rfl); (· intro w1 h1; first | (have hq := CallsTo.q (d17 m ai ci w1 (h1.rd_of_own (mT _ (mT _ (mT _ (mH _ _))))) (fun e => (ownsRow_some h1.g3 e).2) hm hb) h1; show CallsTo Try.prog 17 [m.val ai ci] w1 _; exact hq) | (have hq := CallsTo.q (d18 m a c w1 (h1.rd_of (by (repeat (first | exact mH _ _ | apply mT)))) hz hm hb) h1; show CallsTo Try.prog 18 [m.val a c] w1 _; exact hq) | exact CallsTo.q (c19 a1 a2 c1 c2 (pack m).1 (pack m).1 w1 (h1.rd_of_own (by (repeat (first | exact mH _ _ | apply mT)))) (h1.rd_of_own (by (repeat (first | exact mH _ _ | apply mT)))) (by omega)) h1 | (have hq := CallsTo.q (c20 m m ai a ci c w1 (h1.rd_of_own (mT _ (mT _ (mT _ (mH _ _))))) (h1.rd_of (by (repeat (first | exact mH _ _ | apply mT)))) hm) h1; rw [sameB_self] at hq; show CallsTo Try.prog 20 [m.val ai ci, m.val a c] w1 _; exact hq)))|((first|(apply kR;iterate 2 exact rfl)|(apply kQ;exact rfl));all_goals(intro hc;try simp only[hcs]at hc;try(exfalso;first|contradiction|omega))))
  apply CW.loop [8, 43, 44, 45, 46, 47, 48, 49, 50, 51, 52, 53, 54, 55, 56] (fun s : Nat × List Int => s.1 ≤ (pack m).1.length ∧ s.2.length = (pack m).1.length) (fun s => [(8, Value.int .i64 (s.1 : Int))])
    (fun s => St w NoF [osl (.slice a1 (pack m).1.length c1) 5 1 (pack m).1.length (bv s.2), .own b2 (.cells (m.cells ai ci).toArray 28 (0, 0)), osl (.slice ai m.body.length ci) 5 1 m.body.length (bv m.body), .own b1 (.cells (m.cells a c).toArray 28 (0, 0)), rdA a (bv m.body)]) (fun s => (pack m).1.length - s.1)
  · exact fun w' hw' => ⟨(0, (pack m).1), ⟨by simp, rfl⟩, ⟨rfl, trivial⟩, hw'.tail1⟩
  rintro ⟨i, l'⟩ g ⟨hi, hl'⟩
  simp only at hi hl' ⊢
  by_cases hlt : i < (pack m).1.length
  · have hne : (bv l') ≠ [] := fun e => by have := congrArg List.length e; simp at this; subst this; simp at hl'; omega
    refine LR_cls_cw fun w1 hw1 => ?_
    obtain ⟨bx, ox, rfl⟩ := (ownsRow_rd hw1.g0).form hne
    refine CW.sub (D := St w NoF _) ?_ (fun u e => e ▸ hw1)
    repeat'(first|(apply kp;iterate 2 exact rfl)|apply jJ|(apply jE;exact rfl)|(apply jp;exact rfl)|(apply jc;kernel_rfl)|((first|apply kf|apply kn|apply ke|apply kx|apply kc|apply kb);iterate 2 exact rfl)|((first|apply kz|apply ky);(·exact rfl);(·repeat(first|exact iO|exact iR rfl|apply iT));iterate 2 exact rfl)|(apply kg;iterate 2 exact rfl)|(apply kG;iterate 3 exact rfl)|(apply kB;(iterate 2 exact rfl);intro _)|(apply kA;exact rfl;intro _)|(apply kK;(iterate 4 exact rfl);intro _)|(apply kU;(iterate 2 exact rfl);(·repeat(first|exact sH _ _ _|apply sT));(first|exact nfL_eq rfl|exact rfl);exact rfl)|((first|apply kh|apply kl);(iterate 2 exact rfl);(first|decide|omega);exact rfl)|(apply idxX;(iterate 2 exact rfl);(iterate 2(first|omega|(dsimp only;omega)));exact rfl)|(apply LR.ev; (· apply Ev.load_osl; (· exact rfl); (· (repeat (first | exact mH _ _ | apply mT))); (· exact bv_at (l := l') (i := i) (by simp) (by omega))); (· exact rfl))|(apply addX;(iterate 2 exact rfl);(iterate 2(first|omega|(dsimp only;omega)));exact rfl)|((first|(apply kR;iterate 2 exact rfl)|(apply kQ;exact rfl));all_goals(intro hc;try simp only[hcs]at hc;try(exfalso;first|contradiction|omega))))
    refine LR.store_obj (v := .int .u8 (xorI .u8 l'[i] 90)) (z' := osl (.slice (some ⟨bx, ox, none⟩) (pack m).1.length c1) 5 1 (pack m).1.length (bv (l'.set i (xorI .u8 l'[i] 90)))) rfl rfl (sH _ _ _) rfl ?_ (osl.dep _ _ _ _ _) ?_
    · have st := Stores.osl (P := Try.prog) (T := 5) (q := 1) (b := bx) (o := ox) (i := (i : Int).toNat * 1) (n := (pack m).1.length) (c := c1) (v := .int .u8 (xorI .u8 l'[i] 90)) (vs := [.int .u8 (xorI .u8 l'[i] 90)]) (xs := bv l') (E := 5) (sz := 1) inferInstance rfl rfl rfl (by simp; omega)
      rw [show (i : Int).toNat * 1 = i by omega] at st ⊢
      rwa [splice_bv _ _ _ (by omega)] at st
    repeat'(first|(apply kp;iterate 2 exact rfl)|apply jJ|(apply jE;exact rfl)|(apply jp;exact rfl)|(apply jc;kernel_rfl)|((first|apply kf|apply kn|apply ke|apply kx|apply kc|apply kb);iterate 2 exact rfl)|((first|apply kz|apply ky);(·exact rfl);(·repeat(first|exact iO|exact iR rfl|apply iT));iterate 2 exact rfl)|(apply kg;iterate 2 exact rfl)|(apply kG;iterate 3 exact rfl)|(apply kB;(iterate 2 exact rfl);intro _)|(apply kA;exact rfl;intro _)|(apply kK;(iterate 4 exact rfl);intro _)|(apply kU;(iterate 2 exact rfl);(·repeat(first|exact sH _ _ _|apply sT));(first|exact nfL_eq rfl|exact rfl);exact rfl)|((first|apply kh|apply kl);(iterate 2 exact rfl);(first|decide|omega);exact rfl)|(apply addX;(iterate 2 exact rfl);(iterate 2(first|omega|(dsimp only;omega)));exact rfl)|((first|(apply kR;iterate 2 exact rfl)|(apply kQ;exact rfl));all_goals(intro hc;try simp only[hcs]at hc;try(exfalso;first|contradiction|omega))))
    apply At.again (i + 1, l'.set i (xorI .u8 l'[i] 90)) ⟨by show i + 1 ≤ _; omega, by simp [hl']⟩
    · (repeat (first | exact Out.refl _ _ | exact Out.mix | (apply Out.upd; (· exact rfl)) | (apply Out.updL; (· exact rfl)) | (apply Out.mixs; (· exact rfl))))
    · exact ⟨rfl, trivial⟩
    · exact fun w' hw' => hw'
    · show (pack m).1.length - (i + 1) < (pack m).1.length - i; omega
  · repeat'(first|(apply kp;iterate 2 exact rfl)|apply jJ|(apply jE;exact rfl)|(apply jp;exact rfl)|(apply jc;kernel_rfl)|((first|apply kf|apply kn|apply ke|apply kx|apply kc|apply kb);iterate 2 exact rfl)|((first|apply kz|apply ky);(·exact rfl);(·repeat(first|exact iO|exact iR rfl|apply iT));iterate 2 exact rfl)|(apply kg;iterate 2 exact rfl)|(apply kG;iterate 3 exact rfl)|(apply kB;(iterate 2 exact rfl);intro _)|(apply kA;exact rfl;intro _)|(apply kK;(iterate 4 exact rfl);intro _)|(apply kU;(iterate 2 exact rfl);(·repeat(first|exact sH _ _ _|apply sT));(first|exact nfL_eq rfl|exact rfl);exact rfl)|((first|apply kh|apply kl);(iterate 2 exact rfl);(first|decide|omega);exact rfl)|(apply kq; (· exact rfl); (· intro w1 h1; first | (have hq := CallsTo.q (c20 m m ai a ci c w1 (h1.rd_of_own (mT _ (mT _ (mH _ _)))) (h1.rd_of (by (repeat (first | exact mH _ _ | apply mT)))) hm) h1; rw [sameB_self] at hq; show CallsTo Try.prog 20 [m.val ai ci, m.val a c] w1 _; exact hq) | exact CallsTo.q (c21 w1) h1))|((first|(apply kR;iterate 2 exact rfl)|(apply kQ;exact rfl));all_goals(intro hc;try simp only[hcs]at hc;try(exfalso;first|contradiction|omega))))
    (apply ret1; (· exact rfl); intro w' hS)
    exact ⟨rfl, hS.toKeep⟩
/-! ### how messages are read -/
def MsgI (m : Msg) : Prop := i64 m.kind ∧ i64 m.origin ∧ i64 m.life ∧ i64 m.id ∧ i64 m.part ∧ i64 m.parts ∧ i64 m.groups ∧ i64 m.stamp ∧ i64 m.rseq ∧ i64 m.rrep ∧ i64 m.kseq
theorem opn_bool4 : Opn Try.prog 4 (fun _ cs => ∃ b, cs = [.bool b]) := opn_bool Try.underlying4
theorem opn_key : Opn Try.prog 25 (fun _ cs => ∃ t s r q, cs = [.int .i64 t, .int .i64 s, .int .i64 r, .int .i64 q] ∧ i64 t ∧ i64 s ∧ i64 r ∧ i64 q) := by
  refine (opn_struct Try.underlying25).mono fun w cs ⟨hl, h⟩ => ?_
  have hl : cs.length = 4 := hl
  match cs, hl with
  | [x, y, z, u], _ =>
    obtain ⟨a, ha, ha2⟩ := h 0 _ rfl _ opn_i64
    obtain ⟨b, c, hb, hb2, hc2⟩ := h 1 _ rfl _ opn_ring
    obtain ⟨d, hd, hd2⟩ := h 2 _ rfl _ opn_i64
    have ha : [x] = [Value.int .i64 a] := ha
    have hb : [y, z] = [Value.int .i64 b, .int .i64 c] := hb
    have hd : [u] = [Value.int .i64 d] := hd
    simp only [List.cons.injEq, and_true] at ha hb hd
    exact ⟨a, b, c, d, by rw [ha, hb.1, hb.2, hd], ha2, hb2, hc2, hd2⟩
def MsgR (w : World) (m : Msg) (a : Option Addr) (c : Nat) : Prop := Rd w a (bv m.body) ∧ Byt m.body ∧ (a = none → c = 0) ∧ m.body.length ≤ 140737488351232 ∧ MsgI m
theorem opn_msg : Opn Try.prog 28 (fun w cs => ∃ (m : Msg) (a : Option Addr) (c : Nat), cs = m.cells a c ∧ Rd w a (bv m.body) ∧ Byt m.body ∧ (a = none → c = 0) ∧ m.body.length ≤ 140737488351232 ∧ MsgI m) := by
  refine (opn_struct Try.underlying28).mono fun w cs ⟨hl, h⟩ => ?_
  have hl : cs.length = 13 := hl
  match cs, hl with
  | [y0, y1, y2, y3, y4, y5, y6, y7, y8, y9, y10, y11, y12], _ =>
    obtain ⟨x0, h0, g0⟩ := h 0 _ rfl _ opn_i64
    obtain ⟨x1, h1, g1⟩ := h 1 _ rfl _ opn_i64
    obtain ⟨x2, h2, g2⟩ := h 2 _ rfl _ opn_i64
    obtain ⟨x3, h3, g3⟩ := h 3 _ rfl _ opn_i64
    obtain ⟨x4, h4, g4⟩ := h 4 _ rfl _ opn_i64
    obtain ⟨x5, h5, g5⟩ := h 5 _ rfl _ opn_i64
    obtain ⟨x6, h6, g6⟩ := h 6 _ rfl _ opn_i64
    obtain ⟨x7, h7⟩ := h 7 _ rfl _ opn_bool4
    obtain ⟨x8, x9, x10, x11, h8, g8, g9, g10, g11⟩ := h 8 _ rfl _ opn_key
    obtain ⟨a, c, l, h12, hr, hb, hz, hc, hm⟩ := h 9 _ rfl _ opn_bytes
    have h0 : [y0] = [Value.int .i64 x0] := h0
    have h1 : [y1] = [Value.int .i64 x1] := h1
    have h2 : [y2] = [Value.int .i64 x2] := h2
    have h3 : [y3] = [Value.int .i64 x3] := h3
    have h4 : [y4] = [Value.int .i64 x4] := h4
    have h5 : [y5] = [Value.int .i64 x5] := h5
    have h6 : [y6] = [Value.int .i64 x6] := h6
    have h7 : [y7] = [Value.bool x7] := h7
    have h8 : [y8, y9, y10, y11] = [Value.int .i64 x8, .int .i64 x9, .int .i64 x10, .int .i64 x11] := h8
    have h12 : [y12] = [Value.slice a l.length c] := h12
    simp only [List.cons.injEq, and_true] at h0 h1 h2 h3 h4 h5 h6 h7 h8 h12
    exact ⟨⟨x0, x1, x2, x3, x4, x5, x6, x7, x8, x9, x10, x11, l⟩, a, c, by rw [h0, h1, h2, h3, h4, h5, h6, h7, h8.1, h8.2.1, h8.2.2.1, h8.2.2.2, h12]; rfl, hr, hb, hz, hm, g0, g1, g2, g3, g4, g5, g6, g8, g9, g10, g11⟩
end Go.Proofs.Ytomlgnncncjmaaa

namespace Go.Proofs.Ytomlgnncncjmaaa
open Go.Hb
attribute [local irreducible] LR CW At Ev thn blk finK noG again CallsTo DW QL dnext
set_option linter.unusedSimpArgs false
set_option linter.unusedVariables false
set_option maxRecDepth 100000

theorem unpackW_body (ck : Msg → Int) (l : List Int) : (unpackW ck l).1.body.length ≤ l.length ∧ ∀ b ∈ (unpackW ck l).1.body, b ∈ l := by
  have z : zeroMsg.body.length ≤ l.length ∧ ∀ b ∈ zeroMsg.body, b ∈ l := ⟨by simp [zeroMsg], fun b hb => by simp [zeroMsg] at hb⟩
  unfold unpackW
  split
  · exact z
  · split
    · exact z
    · split
      · exact z
      · split
        · exact z
        · split
          · exact z
          · rename_i h8 h1 h4 ho hc
            have hof := octs_facts (most := 160) (l := (decs 4 (decs 8 l).2.2).2.2) (by simpa using ho)
            have hrl : (decs 4 (decs 8 l).2.2).2.2.length ≤ l.length := Nat.le_trans (decs_rest_len 4 _) (decs_rest_len 8 l)
            refine ⟨by simp only [msgOf]; omega, fun b hb => ?_⟩
            have h2 := hof.2 b hb
            obtain ⟨k, hk⟩ := decs_rest 4 (decs 8 l).2.2
            obtain ⟨k', hk'⟩ := decs_rest 8 l
            rw [hk, hk'] at h2
            exact List.mem_of_mem_drop (List.mem_of_mem_drop h2)
theorem unpack_body (l : List Int) : (unpack l).1.body.length ≤ l.length ∧ ∀ b ∈ (unpack l).1.body, b ∈ l := by
  rw [unpack_eq]; exact unpackW_body _ _
theorem rows_len : ∀ n l, (rows n l).1.length ≤ n
  | 0, l => by simp [rows]
  | n + 1, l => by
    rw [rows]
    split
    · simp
    · have := rows_len n (decs 4 l).2.2
      simp; omega
theorem places_len (l : List Int) : (places l).1.length ≤ 4 := by
  unfold places
  split
  · simp
  · split
    · simp
    · split
      · simp
      · split
        · simp
        · have := rows_len (dec l).1 (l.drop (dec l).2.1)
          simp only at this ⊢; omega

set_option maxHeartbeats 4000000 in
theorem c4 (a : Option Addr) (c : Nat) (l : List Int) (w : World) (hr : Rd w a (bv l)) (hz : a = none → c = 0) (hm : l.length ≤ 140737488355328) (hb : Byt l) :
    CallsTo Try.prog 4 [.slice a l.length c] w fun v w' => v = .bool true ∧ Grew w w' := by
  have hub := unpack_body l
  have hpl := places_len l
  refine go_in (n := 84) (St.rd1 hr) Try.func4 rfl rfl ?_
  repeat'(first|(apply kp;iterate 2 exact rfl)|apply jJ|(apply jE;exact rfl)|(apply jp;exact rfl)|(apply jc;kernel_rfl)|((first|apply kf|apply kn|apply ke|apply kx|apply kc|apply kb);iterate 2 exact rfl)|((first|apply kz|apply ky);(·exact rfl);(·repeat(first|exact iO|exact iR rfl|apply iT));iterate 2 exact rfl)|(apply kg;iterate 2 exact rfl)|(apply kG;iterate 3 exact rfl)|(apply kB;(iterate 2 exact rfl);intro _)|(apply kA;exact rfl;intro _)|(apply kK;(iterate 4 exact rfl);intro _)|(apply kU;(iterate 2 exact rfl);(·repeat(first|exact sH _ _ _|apply sT));(first|exact nfL_eq rfl|exact rfl);exact rfl)|((first|apply kh|apply kl);(iterate 2 exact rfl);(first|decide|omega);exact rfl)|(apply LR.call; (· exact rfl); (intro w1 h1; refine (c22 a c l w1 (h1.rd_of (by (repeat (first | exact mH _ _ | apply mT)))) hz hm).mono ?_; rintro v w2 ⟨ai, ci, rfl, hn⟩; refine LR.back (h1.newSl hn) ?_; clear hn h1))|((first|(apply kR;iterate 2 exact rfl)|(apply kQ;exact rfl));all_goals(intro hc;try simp only[hcs]at hc;try(exfalso;first|contradiction|omega))))
  apply LR.call
  · exact rfl
  intro w1 h1
  refine (d23 ai ci l w1 (h1.rd_of_own (mH _ _)) (fun e => (ownsRow_some h1.g0 e).2) hm hb).mono ?_
  rintro v w2 ⟨a1, c1, rfl, hn⟩
  refine LR.back (h1.newSl hn) ?_
  clear hn h1
  repeat'(first|(apply kp;iterate 2 exact rfl)|apply jJ|(apply jE;exact rfl)|(apply jp;exact rfl)|(apply jc;kernel_rfl)|((first|apply kf|apply kn|apply ke|apply kx|apply kc|apply kb);iterate 2 exact rfl)|((first|apply kz|apply ky);(·exact rfl);(·repeat(first|exact iO|exact iR rfl|apply iT));iterate 2 exact rfl)|(apply kg;iterate 2 exact rfl)|(apply kG;iterate 3 exact rfl)|(apply kB;(iterate 2 exact rfl);intro _)|(apply kA;exact rfl;intro _)|(apply kK;(iterate 4 exact rfl);intro _)|(apply kU;(iterate 2 exact rfl);(·repeat(first|exact sH _ _ _|apply sT));(first|exact nfL_eq rfl|exact rfl);exact rfl)|((first|apply kh|apply kl);(iterate 2 exact rfl);(first|decide|omega);exact rfl)|((first|(apply kR;iterate 2 exact rfl)|(apply kQ;exact rfl));all_goals(intro hc;try simp only[hcs]at hc;try(exfalso;first|contradiction|omega))))
  rename_i b1
  apply LR.call
  · exact rfl
  intro w1 h1
  refine (d24 a c l w1 (h1.rd_of (by (repeat (first | exact mH _ _ | apply mT)))) hz hm hb).mono ?_
  rintro v w2 ⟨a2, c2, rfl, hn⟩
  refine LR.back (h1.newSl hn) ?_
  clear hn h1
  repeat'(first|(apply kp;iterate 2 exact rfl)|apply jJ|(apply jE;exact rfl)|(apply jp;exact rfl)|(apply jc;kernel_rfl)|((first|apply kf|apply kn|apply ke|apply kx|apply kc|apply kb);iterate 2 exact rfl)|((first|apply kz|apply ky);(·exact rfl);(·repeat(first|exact iO|exact iR rfl|apply iT));iterate 2 exact rfl)|(apply kg;iterate 2 exact rfl)|(apply kG;iterate 3 exact rfl)|(apply kB;(iterate 2 exact rfl);intro _)|(apply kA;exact rfl;intro _)|(apply kK;(iterate 4 exact rfl);intro _)|(apply kU;(iterate 2 exact rfl);(·repeat(first|exact sH _ _ _|apply sT));(first|exact nfL_eq rfl|exact rfl);exact rfl)|((first|apply kh|apply kl);(iterate 2 exact rfl);(first|decide|omega);exact rfl)|((first|(apply kR;iterate 2 exact rfl)|(apply kQ;exact rfl));all_goals(intro hc;try simp only[hcs]at hc;try(exfalso;first|contradiction|omega))))
  rename_i b2
  apply LR.call
  · exact rfl
  intro w1 h1
  refine (c25 ai ci l w1 (h1.rd_of_own (by (repeat (first | exact mH _ _ | apply mT)))) (fun e => (ownsRow_some h1.g4 e).2) hm hb).mono ?_
  rintro v w2 ⟨a3, c3, rfl, hn⟩
  refine LR.back (h1.newSl hn) ?_
  clear hn h1
  repeat'(first|(apply kp;iterate 2 exact rfl)|apply jJ|(apply jE;exact rfl)|(apply jp;exact rfl)|(apply jc;kernel_rfl)|((first|apply kf|apply kn|apply ke|apply kx|apply kc|apply kb);iterate 2 exact rfl)|((first|apply kz|apply ky);(·exact rfl);(·repeat(first|exact iO|exact iR rfl|apply iT));iterate 2 exact rfl)|(apply kg;iterate 2 exact rfl)|(apply kG;iterate 3 exact rfl)|(apply kB;(iterate 2 exact rfl);intro _)|(apply kA;exact rfl;intro _)|(apply kK;(iterate 4 exact rfl);intro _)|(apply kU;(iterate 2 exact rfl);(·repeat(first|exact sH _ _ _|apply sT));(first|exact nfL_eq rfl|exact rfl);exact rfl)|((first|apply kh|apply kl);(iterate 2 exact rfl);(first|decide|omega);exact rfl)|((first|(apply kR;iterate 2 exact rfl)|(apply kQ;exact rfl));all_goals(intro hc;try simp only[hcs]at hc;try(exfalso;first|contradiction|omega))))
  apply LR.call
  · exact rfl
  intro w1 h1
  refine (c26 a c l w1 (h1.rd_of (by (repeat (first | exact mH _ _ | apply mT)))) hz hm hb).mono ?_
  rintro v w2 ⟨a4, c4, rfl, hn⟩
  refine LR.back (h1.newSl hn) ?_
  clear hn h1
  repeat'(first|(apply kp;iterate 2 exact rfl)|apply jJ|(apply jE;exact rfl)|(apply jp;exact rfl)|(apply jc;kernel_rfl)|((first|apply kf|apply kn|apply ke|apply kx|apply kc|apply kb);iterate 2 exact rfl)|((first|apply kz|apply ky);(·exact rfl);(·repeat(first|exact iO|exact iR rfl|apply iT));iterate 2 exact rfl)|(apply kg;iterate 2 exact rfl)|(apply kG;iterate 3 exact rfl)|(apply kB;(iterate 2 exact rfl);intro _)|(apply kA;exact rfl;intro _)|(apply kK;(iterate 4 exact rfl);intro _)|(apply kU;(iterate 2 exact rfl);(·repeat(first|exact sH _ _ _|apply sT));(first|exact nfL_eq rfl|exact rfl);exact rfl)|((first|apply kh|apply kl);(iterate 2 exact rfl);(first|decide|omega);exact rfl)|(apply kq; (· exact rfl); (· intro w1 h1; first | (have hq := CallsTo.q (c20 (unpack l).1 (unpack l).1 a1 a2 c1 c2 w1 (h1.rd_of_own (by (repeat (first | exact mH _ _ | apply mT)))) (h1.rd_of_own (by (repeat (first | exact mH _ _ | apply mT)))) (by omega)) h1; rw [sameB_self] at hq; show CallsTo Try.prog 20 [(unpack l).1.val a1 c1, (unpack l).1.val a2 c2] w1 _; exact hq) | exact CallsTo.q (c27 a3 a4 c3 c4 (places l).1 (places l).1 w1 (h1.rd_of_own (by (repeat (first | exact mH _ _ | apply mT)))) (h1.rd_of_own (by (repeat (first | exact mH _ _ | apply mT)))) (by omega)) h1 | exact CallsTo.q (c19 ai a ci c l l w1 (h1.rd_of_own (by (repeat (first | exact mH _ _ | apply mT)))) (h1.rd_of (by (repeat (first | exact mH _ _ | apply mT)))) (by omega)) h1))|((first|(apply kR;iterate 2 exact rfl)|(apply kQ;exact rfl));all_goals(intro hc;try simp only[hcs]at hc;try(exfalso;first|contradiction|omega))))
  generalize (unpack l).1 = m at *
  apply CW.loop [12, 61, 62, 63, 64, 65, 66, 67, 68, 69, 70, 71, 72, 73, 74, 75, 76, 77] (fun s : Nat × List Int => s.1 ≤ m.body.length ∧ s.2.length = m.body.length) (fun s => [(12, Value.int .i64 (s.1 : Int))])
    (fun s => St w NoF [osl (.slice a1 m.body.length c1) 5 1 m.body.length (bv s.2), .own b1 (.cells (m.cells a1 c1).toArray 28 (0, 0)), osl (.slice ai l.length ci) 5 1 l.length (bv l), rdA a (bv l)]) (fun s => m.body.length - s.1)
  · exact fun w' hw' => ⟨(0, m.body), ⟨by simp, rfl⟩, ⟨rfl, trivial⟩, (front (hw'.sub (L' := [.own b1 (.cells (m.cells a1 c1).toArray 28 (0, 0)), osl (.slice a1 m.body.length c1) 5 1 m.body.length (bv m.body), osl (.slice ai l.length ci) 5 1 l.length (bv l), rdA a (bv l)]) (by repeat (first | exact List.Sublist.refl _ | apply List.Sublist.cons_cons | apply List.Sublist.cons))) 1 rfl rfl)⟩
  rintro ⟨i, l'⟩ g ⟨hi, hl'⟩
  simp only at hi hl' ⊢
  by_cases hlt : i < m.body.length
  · have hne : (bv l') ≠ [] := fun e => by have := congrArg List.length e; simp at this; subst this; simp at hl'; omega
    refine LR_cls_cw fun w1 hw1 => ?_
    obtain ⟨bx, ox, rfl⟩ := (ownsRow_rd hw1.g0).form hne
    refine CW.sub (D := St w NoF _) ?_ (fun u e => e ▸ hw1)
    repeat'(first|(apply CW.reg_held (St w NoF [.own b1 (.cells (m.cells (some ⟨bx, ox, none⟩) c1).toArray 28 (0, 0)), osl (.slice ai l.length ci) 5 1 l.length (bv l), rdA a (bv l)]))|(apply kp;iterate 2 exact rfl)|apply jJ|(apply jE;exact rfl)|(apply jp;exact rfl)|(apply jc;kernel_rfl)|((first|apply kf|apply kn|apply ke|apply kx|apply kc|apply kb);iterate 2 exact rfl)|((first|apply kz|apply ky);(·exact rfl);(·repeat(first|exact iO|exact iR rfl|apply iT));iterate 2 exact rfl)|(apply kg;iterate 2 exact rfl)|(apply kG;iterate 3 exact rfl)|(apply kB;(iterate 2 exact rfl);intro _)|(apply kA;exact rfl;intro _)|(apply kK;(iterate 4 exact rfl);intro _)|(apply kU;(iterate 2 exact rfl);(·repeat(first|exact sH _ _ _|apply sT));(first|exact nfL_eq rfl|exact rfl);exact rfl)|((first|apply kh|apply kl);(iterate 2 exact rfl);(first|decide|omega);exact rfl)|((first|(apply kR;iterate 2 exact rfl)|(apply kQ;exact rfl));all_goals(intro hc;try simp only[hcs]at hc;try(exfalso;first|contradiction|omega))))
    apply DW.quiet [0, 1, 2, 3, 4, 5, 6]
    · decide +kernel
    · exact fun _ h => h.tail1
    repeat'(first|(apply yp;iterate 3 exact rfl)|(apply QL.ev;(·exact rfl);(·first|((first|apply Ez|apply Ey);(·exact rfl);(·repeat(first|exact iO|exact iR rfl|apply iT));exact rfl)|((first|apply Ev.fieldAddr|apply Ev.len|apply EqOf.eq|apply EqOf.ne|apply Ev.conv|apply Ev.buildN);exact rfl)|((first|apply Ev.shr|apply Ev.shl);(iterate 2 exact rfl);first|decide|omega));·exact rfl)|(apply QL.ev; (· exact rfl); (· apply Ev.indexAddr; (· exact rfl); (· exact rfl); (· first | omega | (dsimp only; omega)); (· first | omega | (dsimp only; omega))); (· exact rfl))|(apply yq;iterate 5 exact rfl)|(apply QL.evg;(iterate 3 exact rfl);(·first|((first|apply Ez|apply Ey);(·exact rfl);(·repeat(first|exact iO|exact iR rfl|apply iT));exact rfl)|((first|apply Ev.fieldAddr|apply Ev.len|apply EqOf.eq|apply EqOf.ne|apply Ev.conv|apply Ev.buildN);exact rfl)|((first|apply Ev.shr|apply Ev.shl);(iterate 2 exact rfl);first|decide|omega));·exact rfl)|(apply yn;iterate 4 exact rfl)|apply QL.nil)
    apply DW.loud 7
    · exact rfl
    · decide +kernel
    repeat'(first|(apply kp;iterate 2 exact rfl)|apply jJ|(apply jE;exact rfl)|(apply jp;exact rfl)|(apply jc;kernel_rfl)|((first|apply kf|apply kn|apply ke|apply kx|apply kc|apply kb);iterate 2 exact rfl)|((first|apply kz|apply ky);(·exact rfl);(·repeat(first|exact iO|exact iR rfl|apply iT));iterate 2 exact rfl)|(apply kg;iterate 2 exact rfl)|(apply kG;iterate 3 exact rfl)|(apply kB;(iterate 2 exact rfl);intro _)|(apply kA;exact rfl;intro _)|(apply kK;(iterate 4 exact rfl);intro _)|(apply kU;(iterate 2 exact rfl);(·repeat(first|exact sH _ _ _|apply sT));(first|exact nfL_eq rfl|exact rfl);exact rfl)|((first|apply kh|apply kl);(iterate 2 exact rfl);(first|decide|omega);exact rfl)|(apply LR.ev; (· apply Ev.load_osl; (· exact rfl); (· (repeat (first | exact mH _ _ | apply mT))); (· exact bv_at (l := l') (i := i) (by simp) (by omega))); (· exact rfl))|((first|(apply kR;iterate 2 exact rfl)|(apply kQ;exact rfl));all_goals(intro hc;try simp only[hcs]at hc;try(exfalso;first|contradiction|omega))))
    refine At.stage_same (fun _ h => h.tail1) ?_
    apply DW.quiet [8, 9]
    · decide +kernel
    · exact fun _ h => h.tail1
    repeat'(first|(apply yp;iterate 3 exact rfl)|(apply QL.ev;(·exact rfl);(·first|((first|apply Ez|apply Ey);(·exact rfl);(·repeat(first|exact iO|exact iR rfl|apply iT));exact rfl)|((first|apply Ev.fieldAddr|apply Ev.len|apply EqOf.eq|apply EqOf.ne|apply Ev.conv|apply Ev.buildN);exact rfl)|((first|apply Ev.shr|apply Ev.shl);(iterate 2 exact rfl);first|decide|omega));·exact rfl)|(apply QL.ev; (· exact rfl); (· apply Ev.indexAddr; (· exact rfl); (· exact rfl); (· first | omega | (dsimp only; omega)); (· first | omega | (dsimp only; omega))); (· exact rfl))|(apply yq;iterate 5 exact rfl)|(apply QL.evg;(iterate 3 exact rfl);(·first|((first|apply Ez|apply Ey);(·exact rfl);(·repeat(first|exact iO|exact iR rfl|apply iT));exact rfl)|((first|apply Ev.fieldAddr|apply Ev.len|apply EqOf.eq|apply EqOf.ne|apply Ev.conv|apply Ev.buildN);exact rfl)|((first|apply Ev.shr|apply Ev.shl);(iterate 2 exact rfl);first|decide|omega));·exact rfl)|(apply yn;iterate 4 exact rfl)|apply QL.nil)
    apply DW.loud 10
    · exact rfl
    · decide +kernel
    refine LR.store_obj (v := .int .u8 (xorI .u8 l'[i] 90)) (z' := osl (.slice (some ⟨bx, ox, none⟩) m.body.length c1) 5 1 m.body.length (bv (l'.set i (xorI .u8 l'[i] 90)))) rfl rfl (sH _ _ _) rfl ?_ (osl.dep _ _ _ _ _) ?_
    · have st := Stores.osl (P := Try.prog) (T := 5) (q := 1) (b := bx) (o := ox) (i := (i : Int).toNat * 1) (n := m.body.length) (c := c1) (v := .int .u8 (xorI .u8 l'[i] 90)) (vs := [.int .u8 (xorI .u8 l'[i] 90)]) (xs := bv l') (E := 5) (sz := 1) inferInstance rfl rfl rfl (by simp; omega)
      rw [show (i : Int).toNat * 1 = i by omega] at st ⊢
      rwa [splice_bv _ _ _ (by omega)] at st
    repeat'(first|(apply kp;iterate 2 exact rfl)|apply jJ|(apply jE;exact rfl)|(apply jp;exact rfl)|(apply jc;kernel_rfl)|((first|apply kf|apply kn|apply ke|apply kx|apply kc|apply kb);iterate 2 exact rfl)|((first|apply kz|apply ky);(·exact rfl);(·repeat(first|exact iO|exact iR rfl|apply iT));iterate 2 exact rfl)|(apply kg;iterate 2 exact rfl)|(apply kG;iterate 3 exact rfl)|(apply kB;(iterate 2 exact rfl);intro _)|(apply kA;exact rfl;intro _)|(apply kK;(iterate 4 exact rfl);intro _)|(apply kU;(iterate 2 exact rfl);(·repeat(first|exact sH _ _ _|apply sT));(first|exact nfL_eq rfl|exact rfl);exact rfl)|((first|apply kh|apply kl);(iterate 2 exact rfl);(first|decide|omega);exact rfl)|((first|(apply kR;iterate 2 exact rfl)|(apply kQ;exact rfl));all_goals(intro hc;try simp only[hcs]at hc;try(exfalso;first|contradiction|omega))))
    refine At.stage_same (fun _ h => h.tail1) ?_
    apply DW.done
    · kernel_rfl
    repeat'(first|(apply kp;iterate 2 exact rfl)|apply jJ|(apply jE;exact rfl)|(apply jp;exact rfl)|(apply jc;kernel_rfl)|((first|apply kf|apply kn|apply ke|apply kx|apply kc|apply kb);iterate 2 exact rfl)|((first|apply kz|apply ky);(·exact rfl);(·repeat(first|exact iO|exact iR rfl|apply iT));iterate 2 exact rfl)|(apply kg;iterate 2 exact rfl)|(apply kG;iterate 3 exact rfl)|(apply kB;(iterate 2 exact rfl);intro _)|(apply kA;exact rfl;intro _)|(apply kK;(iterate 4 exact rfl);intro _)|(apply kU;(iterate 2 exact rfl);(·repeat(first|exact sH _ _ _|apply sT));(first|exact nfL_eq rfl|exact rfl);exact rfl)|((first|apply kh|apply kl);(iterate 2 exact rfl);(first|decide|omega);exact rfl)|(apply addX;(iterate 2 exact rfl);(iterate 2(first|omega|(dsimp only;omega)));exact rfl)|((first|(apply kR;iterate 2 exact rfl)|(apply kQ;exact rfl));all_goals(intro hc;try simp only[hcs]at hc;try(exfalso;first|contradiction|omega))))
    apply At.again (i + 1, l'.set i (xorI .u8 l'[i] 90)) ⟨by show i + 1 ≤ _; omega, by simp [hl']⟩
    · (repeat (first | exact Out.refl _ _ | exact Out.mix | (apply Out.upd; (· exact rfl)) | (apply Out.updL; (· exact rfl)) | (apply Out.mixs; (· exact rfl))))
    · exact ⟨rfl, trivial⟩
    · exact fun w' hw' => hw'
    · show m.body.length - (i + 1) < m.body.length - i; omega
  · repeat'(first|(apply kp;iterate 2 exact rfl)|apply jJ|(apply jE;exact rfl)|(apply jp;exact rfl)|(apply jc;kernel_rfl)|((first|apply kf|apply kn|apply ke|apply kx|apply kc|apply kb);iterate 2 exact rfl)|((first|apply kz|apply ky);(·exact rfl);(·repeat(first|exact iO|exact iR rfl|apply iT));iterate 2 exact rfl)|(apply kg;iterate 2 exact rfl)|(apply kG;iterate 3 exact rfl)|(apply kB;(iterate 2 exact rfl);intro _)|(apply kA;exact rfl;intro _)|(apply kK;(iterate 4 exact rfl);intro _)|(apply kU;(iterate 2 exact rfl);(·repeat(first|exact sH _ _ _|apply sT));(first|exact nfL_eq rfl|exact rfl);exact rfl)|((first|apply kh|apply kl);(iterate 2 exact rfl);(first|decide|omega);exact rfl)|(apply kq; (· exact rfl); (· intro w1 h1; first | exact CallsTo.q (c19 ai a ci c l l w1 (h1.rd_of_own (by (repeat (first | exact mH _ _ | apply mT)))) (h1.rd_of (by (repeat (first | exact mH _ _ | apply mT)))) (by omega)) h1 | exact CallsTo.q (c21 w1) h1))|((first|(apply kR;iterate 2 exact rfl)|(apply kQ;exact rfl));all_goals(intro hc;try simp only[hcs]at hc;try(exfalso;first|contradiction|omega))))
    (apply ret1; (· exact rfl); intro w' hS)
    exact ⟨rfl, hS.toKeep⟩
end Go.Proofs.Ytomlgnncncjmaaa

namespace Go.Proofs.Ytomlgnncncjmaaa
open Go.Hb
set_option linter.unusedSimpArgs false
set_option linter.unusedVariables false

theorem toNat_mod (y : Nat) (h : y < 128) : ((y : Int)).toNat % 128 = y := by simp; omega
theorem split128 (y i : Nat) : (y % 128) * 128 ^ i + (y / 128) * 128 ^ (i + 1) = y * 128 ^ i := by
  rw [Nat.pow_succ, ← Nat.mul_assoc, Nat.mul_right_comm, ← Nat.add_mul]
  congr 1
  omega
theorem decF_encF : ∀ (k m i acc y : Nat) (r : List Int), y < 128 ^ (k + 1) → k ≤ m → acc + y * 128 ^ i ≤ 9007199254740991 → (0 < i → 0 < y) →
    decF (k + 1) i acc (encF m y ++ r) = (acc + y * 128 ^ i, i + (encF m y).length, 0)
  | k, m, i, acc, y, r, hy, hm, hs, hp => by
    by_cases hlt : y < 128
    · rw [encF_small m y hlt]
      simp only [List.cons_append, List.nil_append, decF, List.length_singleton]
      rw [if_pos (by omega), toNat_mod y hlt, if_neg (by simp only [not_or, not_and]; exact ⟨fun h => by have := hp h; omega, by omega⟩)]
    · cases k with
      | zero => simp at hy; omega
      | succ k =>
        cases m with
        | zero => omega
        | succ m =>
          have hd : y / 128 < 128 ^ (k + 1) := by rw [Nat.pow_succ] at hy; omega
          have hsp := split128 y i
          have ih := decF_encF k m (i + 1) (acc + y % 128 * 128 ^ i) (y / 128) r hd (by omega) (by omega) (fun _ => by omega)
          rw [encF, if_neg hlt, List.cons_append]
          rw [decF]
          have e1 : (((y % 128 + 128 : Nat) : Int)).toNat % 128 = y % 128 := by rw [Int.toNat_natCast]; omega
          rw [if_neg (by omega), e1, ih]
          simp only [List.length_cons, Prod.mk.injEq, and_true]
          omega
theorem dec_enc (x : Nat) (hx : x ≤ 9007199254740991) (r : List Int) : dec (enc x ++ r) = (x, (enc x).length, 0) := by
  have h1 : (128 : Nat) ^ 8 = 72057594037927936 := by decide
  have := decF_encF 7 8 0 0 x r (by omega) (by omega) (by simpa using hx) (fun h => by omega)
  simpa [dec, enc] using this
theorem decF_canon : ∀ (k m i acc : Nat) (l : List Int), Byt l → k ≤ m + 1 → (decF k i acc l).2.2 = 0 →
    ∃ y r, (decF k i acc l).1 = acc + y * 128 ^ i ∧ (0 < i → 0 < y) ∧ l = encF m y ++ r ∧ (decF k i acc l).2.1 = i + (encF m y).length
  | 0, m, i, acc, l, hb, hm, h => by simp [decF] at h
  | k + 1, m, i, acc, [], hb, hm, h => by simp [decF] at h
  | k + 1, m, i, acc, x :: r, hb, hm, h => by
    have hx := hb x (List.mem_cons_self)
    rw [decF] at h ⊢
    by_cases hlt : x < 128
    · rw [if_pos hlt] at h ⊢
      by_cases hbad : (0 < i ∧ x = 0) ∨ 9007199254740991 < acc + x.toNat % 128 * 128 ^ i
      · rw [if_pos hbad] at h; cases h
      · rw [if_neg hbad]
        simp only [not_or, not_and] at hbad
        have e : x.toNat % 128 = x.toNat := by omega
        refine ⟨x.toNat, r, by rw [e], fun hi => by have := hbad.1 hi; omega, ?_, ?_⟩
        · rw [encF_small m _ (by omega)]; simp; omega
        · rw [encF_small m _ (by omega)]; rfl
    · rw [if_neg hlt] at h ⊢
      cases m with
      | zero =>
        have : k = 0 := by omega
        subst this
        simp [decF] at h
      | succ m =>
        obtain ⟨y, r', h1, h2, h3, h4⟩ := decF_canon k m (i + 1) (acc + x.toNat % 128 * 128 ^ i) r (fun b hb' => hb b (List.mem_cons_of_mem _ hb')) (by omega) h
        have hy := h2 (by omega)
        refine ⟨x.toNat % 128 + y * 128, r', ?_, fun _ => by omega, ?_, ?_⟩
        · rw [h1]
          have := split128 (x.toNat % 128 + y * 128) i
          rw [show (x.toNat % 128 + y * 128) % 128 = x.toNat % 128 by omega, show (x.toNat % 128 + y * 128) / 128 = y by omega] at this
          omega
        · rw [encF, if_neg (by omega), show (x.toNat % 128 + y * 128) % 128 = x.toNat % 128 by omega, show (x.toNat % 128 + y * 128) / 128 = y by omega, List.cons_append, ← h3]
          congr 1
          omega
        · rw [h4, encF, if_neg (by omega), show (x.toNat % 128 + y * 128) / 128 = y by omega]
          simp only [List.length_cons]; omega
theorem dec_canon {l : List Int} (hb : Byt l) (h : (dec l).2.2 = 0) : ∃ r, l = enc (dec l).1 ++ r ∧ (dec l).2.1 = (enc (dec l).1).length ∧ (dec l).1 ≤ 9007199254740991 := by
  obtain ⟨y, r, h1, _, h3, h4⟩ := decF_canon 8 8 0 0 l hb (by omega) h
  have e : (dec l).1 = y := by show (decF 8 0 0 l).1 = y; rw [h1]; simp
  have hbd := (decF_bound 8 0 0 l).2 h
  refine ⟨r, by rw [e]; exact h3, ?_, hbd.2⟩
  rw [e]
  show (decF 8 0 0 l).2.1 = _
  rw [h4]; simp [enc]

theorem decs_encs : ∀ (xs : List Int) (r : List Int), (∀ x ∈ xs, okN x) → decs xs.length (encs xs ++ r) = (xs, 0, r)
  | [], r, _ => by simp [decs, encs]
  | x :: xs, r, h => by
    have hx := h x List.mem_cons_self
    unfold okN at hx
    have he : encs (x :: xs) ++ r = enc x.toNat ++ (encs xs ++ r) := by simp [encs]
    have hd := dec_enc x.toNat (by omega) (encs xs ++ r)
    rw [he, List.length_cons, decs, hd, if_neg (by simp)]
    simp only [List.drop_left]
    rw [decs_encs xs r (fun y hy => h y (List.mem_cons_of_mem _ hy))]
    simp; omega
theorem decs_canon : ∀ (n : Nat) (l : List Int), Byt l → (decs n l).2.1 = 0 → l = encs (decs n l).1 ++ (decs n l).2.2
  | 0, l, _, _ => by simp [decs, encs]
  | n + 1, l, hb, h => by
    rw [decs] at h ⊢
    by_cases hd : (dec l).2.2 ≠ 0
    · rw [if_pos hd] at h; exact absurd h hd
    · rw [if_neg hd] at h ⊢
      obtain ⟨r, h1, h2, h3⟩ := dec_canon hb (by simpa using hd)
      have ih := decs_canon n (l.drop (dec l).2.1) (hb.drop _) h
      have hr : l.drop (dec l).2.1 = r := by rw [h2]; have hx := List.drop_left (l₁ := enc (dec l).1) (l₂ := r); rwa [← h1] at hx
      rw [hr] at ih ⊢
      simp only [encs, List.flatMap_cons, Int.toNat_natCast, List.append_assoc] at ih ⊢
      rw [← ih]; exact h1
theorem octs_enc {most : Int} {b r : List Int} (h1 : (b.length : Int) ≤ most) (h2 : b.length ≤ 9007199254740991) : octs most (enc b.length ++ b ++ r) = (b, 0, r) := by
  have hd := dec_enc b.length h2 (b ++ r)
  rw [List.append_assoc]
  rw [octs_ok (by rw [hd]) (by rw [hd]; exact h1) (by rw [hd]; simp; omega), hd]
  simp only [List.drop_left, List.take_left, Prod.mk.injEq, true_and]
  rw [← List.append_assoc, List.drop_append, List.length_append, List.drop_of_length_le (by simp)]
  simp
theorem octs_canon {most : Int} {l : List Int} (hb : Byt l) (h : (octs most l).2.1 = 0) : l = enc (octs most l).1.length ++ (octs most l).1 ++ (octs most l).2.2 ∧ ((octs most l).1.length : Int) ≤ most := by
  unfold octs at h ⊢
  by_cases h0 : (dec l).2.2 ≠ 0
  · rw [if_pos h0] at h; exact absurd h h0
  · rw [if_neg h0] at h ⊢
    by_cases h1 : most < ((dec l).1 : Int)
    · rw [if_pos h1] at h; cases h
    · rw [if_neg h1] at h ⊢
      by_cases h2 : ((l.length - (dec l).2.1 : Nat) : Int) < ((dec l).1 : Int)
      · rw [if_pos h2] at h; cases h
      · rw [if_neg h2]
        obtain ⟨r, h3, h4, h5⟩ := dec_canon hb (by simpa using h0)
        have hr : l.drop (dec l).2.1 = r := by rw [h4]; have hx := List.drop_left (l₁ := enc (dec l).1) (l₂ := r); rwa [← h3] at hx
        have hrl : l.length - (dec l).2.1 = r.length := by rw [← hr]; simp
        have hl : ((l.drop (dec l).2.1).take (dec l).1).length = (dec l).1 := by rw [hr]; simp; omega
        simp only [hl]
        refine ⟨?_, by omega⟩
        rw [← List.drop_drop, hr, List.append_assoc, List.take_append_drop]
        exact h3

/-! ### messages -/
theorem decs_append (a b : Nat) (l : List Int) (h : (decs a l).2.1 = 0) : decs (a + b) l = ((decs a l).1 ++ (decs b (decs a l).2.2).1, (decs b (decs a l).2.2).2) := by
  rw [decs_split, if_neg (by simpa using h)]
def nums8 (m : Msg) : List Int := [m.kind, m.origin, m.life, m.id, m.part, m.parts, m.groups, b2i m.safe]
def nums4 (m : Msg) : List Int := [m.stamp, m.rseq, m.rrep, m.kseq]
theorem msgNums_parts (m : Msg) : msgNums m = nums8 m ++ nums4 m := rfl
theorem msgOf_nums (m : Msg) : msgOf (nums8 m) (nums4 m) m.body = m := by
  obtain ⟨x1, x2, x3, x4, x5, x6, x7, x8, x9, x10, x11, x12, x13⟩ := m
  cases x8 <;> rfl
theorem unpackW_bytes {ck : Msg → Int} {m : Msg} {r : List Int} (hok : ∀ x ∈ msgNums m, okN x) (hl : m.body.length ≤ 160) :
    unpackW ck (bytesM m ++ r) = if 0 < r.length ∨ ck m ≠ 0 then (zeroMsg, 4) else (m, 0) := by
  have e : bytesM m ++ r = encs (nums8 m) ++ (encs (nums4 m) ++ (enc m.body.length ++ m.body ++ r)) := by
    simp only [bytesM, msgNums_parts, encs, List.flatMap_append, List.append_assoc]
  have hok2 : (∀ x ∈ nums8 m, okN x) ∧ ∀ x ∈ nums4 m, okN x := ⟨fun x hx => hok x (by rw [msgNums_parts]; exact List.mem_append_left _ hx), fun x hx => hok x (by rw [msgNums_parts]; exact List.mem_append_right _ hx)⟩
  have h8 : decs 8 (bytesM m ++ r) = (nums8 m, 0, encs (nums4 m) ++ (enc m.body.length ++ m.body ++ r)) := by rw [e]; exact decs_encs (nums8 m) _ hok2.1
  have h4 : decs 4 (encs (nums4 m) ++ (enc m.body.length ++ m.body ++ r)) = (nums4 m, 0, enc m.body.length ++ m.body ++ r) := decs_encs (nums4 m) _ hok2.2
  have ho : octs 160 (enc m.body.length ++ m.body ++ r) = (m.body, 0, r) := octs_enc (by omega) (by omega)
  have h7 : ¬ 1 < (nums8 m).getD 7 0 := by show ¬ 1 < b2i m.safe; unfold b2i; split <;> omega
  unfold unpackW
  rw [h8]
  simp only
  rw [h4]
  simp only
  rw [ho]
  simp only [msgOf_nums, h7, if_false, ne_eq, not_true_eq_false]
theorem unpack_bytes {m : Msg} (h : check m = 0) : unpack (bytesM m) = (m, 0) := by
  have := unpackW_bytes (ck := check) (r := []) (msgNums_ok h) (check_ok h).1
  rw [List.append_nil] at this
  rw [unpack_eq, this, if_neg (by simp [h])]
theorem unpack_more {m : Msg} (h : check m = 0) (x : Int) : unpack (bytesM m ++ [x]) = (zeroMsg, 4) := by
  rw [unpack_eq, unpackW_bytes (ck := check) (r := [x]) (msgNums_ok h) (check_ok h).1, if_pos (by simp)]
theorem unpack_canon {l : List Int} (hb : Byt l) (h : (unpack l).2 = 0) : check (unpack l).1 = 0 ∧ bytesM (unpack l).1 = l := by
  rw [unpack_eq] at h ⊢
  unfold unpackW at h ⊢
  by_cases h8 : (decs 8 l).2.1 ≠ 0
  · rw [if_pos h8] at h; exact absurd h h8
  rw [if_neg h8] at h ⊢
  by_cases h7 : 1 < (decs 8 l).1.getD 7 0
  · rw [if_pos h7] at h; cases h
  rw [if_neg h7] at h ⊢
  by_cases h4 : (decs 4 (decs 8 l).2.2).2.1 ≠ 0
  · rw [if_pos h4] at h; exact absurd h h4
  rw [if_neg h4] at h ⊢
  by_cases ho : (octs 160 (decs 4 (decs 8 l).2.2).2.2).2.1 ≠ 0
  · rw [if_pos ho] at h; exact absurd h ho
  rw [if_neg ho] at h ⊢
  by_cases hc : 0 < (octs 160 (decs 4 (decs 8 l).2.2).2.2).2.2.length ∨ check (msgOf (decs 8 l).1 (decs 4 (decs 8 l).2.2).1 (octs 160 (decs 4 (decs 8 l).2.2).2.2).1) ≠ 0
  · rw [if_pos hc] at h; cases h
  rw [if_neg hc]
  simp only [not_or, Nat.not_lt] at hc
  simp only [ne_eq, Decidable.not_not] at h8 h4 ho hc
  have c8 := decs_canon 8 l hb h8
  have c4 := decs_canon 4 _ (decs_rest_byt 8 hb) h4
  have co := (octs_canon (decs_rest_byt 4 (decs_rest_byt 8 hb)) ho).1
  have l8 := (decs_len 8 l).2 h8
  have l4 := (decs_len 4 _).2 h4
  have b8 := decs_bound 8 l
  refine ⟨hc.2, ?_⟩
  generalize (octs 160 (decs 4 (decs 8 l).2.2).2.2).1 = body at *
  have hnil : (octs 160 (decs 4 (decs 8 l).2.2).2.2).2.2 = [] := List.eq_nil_of_length_eq_zero (by omega)
  rw [hnil, List.append_nil] at co
  rw [co] at c4
  rw [c4] at c8
  generalize (decs 4 (decs 8 l).2.2).1 = x4 at *
  generalize (decs 8 l).1 = x8 at *
  obtain ⟨w0, w1, w2, w3, rfl⟩ := four l4
  obtain ⟨v0, v1, v2, v3, v4, v5, v6, v7, rfl⟩ : ∃ v0 v1 v2 v3 v4 v5 v6 v7, x8 = [v0, v1, v2, v3, v4, v5, v6, v7] := by
    match x8, l8 with
    | [a, b, c, d, e, f, g, h], _ => exact ⟨a, b, c, d, e, f, g, h, rfl⟩
  have h7' : v7 ≤ 1 := by simpa using h7
  have h70 : 0 ≤ v7 := (b8 v7 (by simp)).1
  have e7 : b2i (decide (v7 = 1)) = v7 := by
    unfold b2i
    have : v7 = 0 ∨ v7 = 1 := by omega
    rcases this with rfl | rfl <;> simp
  rw [c8]
  show encs (nums8 (msgOf [v0, v1, v2, v3, v4, v5, v6, v7] [w0, w1, w2, w3] body) ++ nums4 (msgOf [v0, v1, v2, v3, v4, v5, v6, v7] [w0, w1, w2, w3] body)) ++ enc body.length ++ body = _
  have e8 : nums8 (msgOf [v0, v1, v2, v3, v4, v5, v6, v7] [w0, w1, w2, w3] body) = [v0, v1, v2, v3, v4, v5, v6, v7] := by
    show [v0, v1, v2, v3, v4, v5, v6, b2i (decide (v7 = 1))] = _
    rw [e7]
  rw [e8]
  simp only [encs, List.flatMap_append, List.append_assoc]
  rfl

/-! ### places -/
theorem plcNums_of {v : List Int} (h : v.length = 4) : plcNums (plcOf v) = v := by
  obtain ⟨a, b, c, d, rfl⟩ := four h
  rfl
theorem plcOf_nums (p : Plc) : plcOf (plcNums p) = p := rfl
theorem rows_enc : ∀ (ps : List Plc) (r : List Int), (∀ p ∈ ps, ∀ x ∈ plcNums p, okN x) → rows ps.length ((ps.flatMap fun p => encs (plcNums p)) ++ r) = (ps, 0, r)
  | [], r, _ => by simp [rows]
  | p :: ps, r, h => by
    have hd := decs_encs (plcNums p) ((ps.flatMap fun p => encs (plcNums p)) ++ r) (h p List.mem_cons_self)
    have h4 : (plcNums p).length = 4 := rfl
    rw [h4] at hd
    rw [List.length_cons, rows, List.flatMap_cons, List.append_assoc, hd, if_neg (by simp)]
    simp only
    rw [rows_enc ps r (fun q hq => h q (List.mem_cons_of_mem _ hq)), plcOf_nums]
theorem rows_canon : ∀ (n : Nat) (l : List Int), Byt l → (rows n l).2.1 = 0 → l = ((rows n l).1.flatMap fun p => encs (plcNums p)) ++ (rows n l).2.2 ∧ (rows n l).1.length = n
  | 0, l, _, _ => by simp [rows]
  | n + 1, l, hb, h => by
    rw [rows] at h ⊢
    by_cases hd : (decs 4 l).2.1 ≠ 0
    · rw [if_pos hd] at h; exact absurd h hd
    · rw [if_neg hd] at h ⊢
      have ih := rows_canon n (decs 4 l).2.2 (decs_rest_byt 4 hb) h
      have hc := decs_canon 4 l hb (by simpa using hd)
      have hl4 := (decs_len 4 l).2 (by simpa using hd)
      simp only [List.flatMap_cons, plcNums_of hl4, List.append_assoc, List.length_cons, ih.2, and_true]
      rw [← ih.1]; exact hc
theorem charts_ok {ps : List Plc} (h : (charts ps).2 = 0) : ps.length ≤ 4 ∧ (∀ p ∈ ps, plcB p = true) ∧ charts ps = (plcsBytes ps, 0) := by
  unfold charts at h ⊢
  by_cases h4 : 4 < ps.length
  · rw [if_pos h4] at h; cases h
  rw [if_neg h4] at h ⊢
  by_cases hb : (ps.any fun p => !plcB p) = true
  · rw [if_pos hb] at h; cases h
  rw [if_neg hb] at h ⊢
  by_cases hi : incr (-1) ps = false
  · rw [if_pos hi] at h; cases h
  rw [if_neg hi]
  exact ⟨by omega, any_false (by simpa using hb), rfl⟩
theorem places_enc {ps : List Plc} (r : List Int) (h : (charts ps).2 = 0) : places (plcsBytes ps ++ r) = if 0 < r.length then ([], 4) else (ps, 0) := by
  obtain ⟨h4, hb, hc⟩ := charts_ok h
  have hd := dec_enc ps.length (by omega) ((ps.flatMap fun p => encs (plcNums p)) ++ r)
  have hr := rows_enc ps r (fun p hp => plcNums_ok (hb p hp))
  unfold places plcsBytes
  rw [List.append_assoc, hd]
  simp only [ne_eq, not_true_eq_false, if_false, List.drop_left]
  rw [if_neg (by omega), hr]
  simp only [not_true_eq_false, if_false, h, false_or]
theorem places_canon {l : List Int} (hb : Byt l) (h : (places l).2 = 0) : charts (places l).1 = (l, 0) := by
  unfold places at h ⊢
  by_cases h0 : (dec l).2.2 ≠ 0
  · rw [if_pos h0] at h; exact absurd h h0
  rw [if_neg h0] at h ⊢
  by_cases h1 : 4 < (dec l).1
  · rw [if_pos h1] at h; cases h
  rw [if_neg h1] at h ⊢
  by_cases h2 : (rows (dec l).1 (l.drop (dec l).2.1)).2.1 ≠ 0
  · rw [if_pos h2] at h; exact absurd h h2
  rw [if_neg h2] at h ⊢
  by_cases h3 : (charts (rows (dec l).1 (l.drop (dec l).2.1)).1).2 ≠ 0 ∨ 0 < (rows (dec l).1 (l.drop (dec l).2.1)).2.2.length
  · rw [if_pos h3] at h; cases h
  rw [if_neg h3]
  simp only [not_or, Nat.not_lt, ne_eq, Decidable.not_not] at h0 h2 h3
  obtain ⟨hc4, hcb, hc⟩ := charts_ok h3.1
  obtain ⟨r, d1, d2, d3⟩ := dec_canon hb h0
  have hr : l.drop (dec l).2.1 = r := by rw [d2]; have hx := List.drop_left (l₁ := enc (dec l).1) (l₂ := r); rwa [← d1] at hx
  have rc := rows_canon (dec l).1 (l.drop (dec l).2.1) (hb.drop _) h2
  have hnil : (rows (dec l).1 (l.drop (dec l).2.1)).2.2 = [] := List.eq_nil_of_length_eq_zero (by omega)
  rw [hnil, List.append_nil] at rc
  simp only
  rw [hc]
  congr 1
  unfold plcsBytes
  rw [rc.2, ← rc.1, hr]
  exact d1.symm
end Go.Proofs.Ytomlgnncncjmaaa

namespace Go.Proofs.Ytomlgnncncjmaaa
open Go.Hb
attribute [local irreducible] LR CW At Ev thn blk finK noG again CallsTo DW QL dnext
set_option linter.unusedSimpArgs false
set_option linter.unusedVariables false
set_option maxRecDepth 100000

theorem pack_ok {m : Msg} (h : (pack m).2 = 0) : check m = 0 ∧ pack m = (bytesM m, 0) := by
  unfold pack at h ⊢
  split
  · rename_i hc; rw [if_pos hc] at h; exact absurd h hc
  · rename_i hc; exact ⟨by simpa using hc, rfl⟩
theorem pack_bad {m : Msg} (h : ¬ (pack m).2 = 0) : pack m = ([], check m) := by
  unfold pack at h ⊢
  split
  · rfl
  · rename_i hc; rw [if_neg hc] at h; exact absurd rfl h
theorem encF_byt : ∀ (m y : Nat), y < 128 ^ (m + 1) → Byt (encF m y)
  | 0, y, h => fun b hb => by simp [encF] at hb h; omega
  | m + 1, y, h => by
    rw [encF]
    split
    · intro b hb; simp at hb; omega
    · intro b hb
      rcases List.mem_cons.1 hb with rfl | hb
      · omega
      · exact encF_byt m (y / 128) (by rw [Nat.pow_succ] at h; omega) b hb
theorem enc_byt {x : Nat} (h : x ≤ 9007199254740991) : Byt (enc x) := encF_byt 8 x (by have : (128 : Nat) ^ 9 = 9223372036854775808 := by decide
                                                                                       omega)
theorem Byt.append {l r : List Int} (h : Byt l) (h' : Byt r) : Byt (l ++ r) := fun b hb => by
  rcases List.mem_append.1 hb with hb | hb
  · exact h b hb
  · exact h' b hb
theorem encs_byt {xs : List Int} (h : ∀ x ∈ xs, okN x) : Byt (encs xs) := by
  intro b hb
  obtain ⟨x, hx, hb⟩ := List.mem_flatMap.1 hb
  have := h x hx
  unfold okN at this
  exact enc_byt (by omega) b hb
theorem Byt.bytes {m : Msg} (hb : Byt m.body) (h : check m = 0) : Byt (bytesM m) :=
  ((encs_byt (msgNums_ok h)).append (enc_byt (by have := (check_ok h).1; omega))).append hb

set_option maxHeartbeats 4000000 in
theorem c6 (m : Msg) (a : Option Addr) (c : Nat) (w : World) (hr : Rd w a (bv m.body)) (hz : a = none → c = 0) (hm : m.body.length ≤ 140737488355328) (hb : Byt m.body) :
    CallsTo Try.prog 6 [m.val a c] w fun v w' => v = .bool true ∧ Grew w w' := by
  refine go_in (n := 42) (St.rd1 hr) Try.func6 rfl rfl ?_
  repeat'(first|(apply kp;iterate 2 exact rfl)|apply jJ|(apply jE;exact rfl)|(apply jp;exact rfl)|(apply jc;kernel_rfl)|((first|apply kf|apply kn|apply ke|apply kx|apply kc|apply kb);iterate 2 exact rfl)|((first|apply kz|apply ky);(·exact rfl);(·repeat(first|exact iO|exact iR rfl|apply iT));iterate 2 exact rfl)|(apply kg;iterate 2 exact rfl)|(apply kG;iterate 3 exact rfl)|(apply kB;(iterate 2 exact rfl);intro _)|(apply kA;exact rfl;intro _)|(apply kK;(iterate 4 exact rfl);intro _)|(apply kU;(iterate 2 exact rfl);(·repeat(first|exact sH _ _ _|apply sT));(first|exact nfL_eq rfl|exact rfl);exact rfl)|((first|apply kh|apply kl);(iterate 2 exact rfl);(first|decide|omega);exact rfl)|(apply kq; (· exact rfl); (· intro w1 h1; exact CallsTo.q (c21 w1) h1))|((first|(apply kR;iterate 2 exact rfl)|(apply kQ;exact rfl));all_goals(intro hc;try simp only[hcs]at hc;try(exfalso;first|contradiction|omega))))
  rename_i b1
  apply LR.call
  · exact rfl
  intro w1 h1
  refine CallsTo.mono (show CallsTo Try.prog 15 [m.val a c] w1 _ from c15 m a c w1 (h1.rd_of (by (repeat (first | exact mH _ _ | apply mT)))) hz hm hb) ?_
  rintro v w2 ⟨a1, c1, rfl, hn⟩
  refine LR.back (h1.newSl hn) ?_
  clear hn h1
  by_cases hp : (pack m).2 = 0
  · obtain ⟨hck, ep⟩ := pack_ok hp
    have hu := unpack_bytes hck
    rw [ep]
    repeat'(first|(apply kp;iterate 2 exact rfl)|apply jJ|(apply jE;exact rfl)|(apply jp;exact rfl)|(apply jc;kernel_rfl)|((first|apply kf|apply kn|apply ke|apply kx|apply kc|apply kb);iterate 2 exact rfl)|((first|apply kz|apply ky);(·exact rfl);(·repeat(first|exact iO|exact iR rfl|apply iT));iterate 2 exact rfl)|(apply kg;iterate 2 exact rfl)|(apply kG;iterate 3 exact rfl)|(apply kB;(iterate 2 exact rfl);intro _)|(apply kA;exact rfl;intro _)|(apply kK;(iterate 4 exact rfl);intro _)|(apply kU;(iterate 2 exact rfl);(·repeat(first|exact sH _ _ _|apply sT));(first|exact nfL_eq rfl|exact rfl);exact rfl)|((first|apply kh|apply kl);(iterate 2 exact rfl);(first|decide|omega);exact rfl)|((first|(apply kR;iterate 2 exact rfl)|(apply kQ;exact rfl));all_goals(intro hc;try simp only[hcs]at hc;try(exfalso;first|contradiction|omega))))
    apply LR.call
    · exact rfl
    intro w1 h1
    refine (d23 a1 c1 (bytesM m) w1 (h1.rd_of_own (mH _ _)) (fun e => (ownsRow_some h1.g0 e).2) (by have := bytesM_len m; have := (check_ok hck).1; omega) (hb.bytes hck)).mono ?_
    rw [hu]
    rintro v w2 ⟨a2, c2, rfl, hn⟩
    refine LR.back (h1.newSl hn) ?_
    clear hn h1
    repeat'(first|(apply kp;iterate 2 exact rfl)|apply jJ|(apply jE;exact rfl)|(apply jp;exact rfl)|(apply jc;kernel_rfl)|((first|apply kf|apply kn|apply ke|apply kx|apply kc|apply kb);iterate 2 exact rfl)|((first|apply kz|apply ky);(·exact rfl);(·repeat(first|exact iO|exact iR rfl|apply iT));iterate 2 exact rfl)|(apply kg;iterate 2 exact rfl)|(apply kG;iterate 3 exact rfl)|(apply kB;(iterate 2 exact rfl);intro _)|(apply kA;exact rfl;intro _)|(apply kK;(iterate 4 exact rfl);intro _)|(apply kU;(iterate 2 exact rfl);(·repeat(first|exact sH _ _ _|apply sT));(first|exact nfL_eq rfl|exact rfl);exact rfl)|((first|apply kh|apply kl);(iterate 2 exact rfl);(first|decide|omega);exact rfl)|(apply kq; (· exact rfl); (· intro w1 h1; first | (have hq := CallsTo.q (d17 m a c w1 (h1.rd_of (by (repeat (first | exact mH _ _ | apply mT)))) hz hm hb) h1; rw [hck] at hq; show CallsTo Try.prog 17 [m.val a c] w1 _; exact hq) | (have hq := CallsTo.q (c30 m m a2 a c2 c w1 (h1.rd_of_own (mT _ (mH _ _))) (h1.rd_of (by (repeat (first | exact mH _ _ | apply mT)))) hm) h1; rw [sameB_self] at hq; show CallsTo Try.prog 30 [m.val a2 c2, m.val a c] w1 _; exact hq)))|((first|(apply kR;iterate 2 exact rfl)|(apply kQ;exact rfl));all_goals(intro hc;try simp only[hcs]at hc;try(exfalso;first|contradiction|omega))))
    (apply ret1; (· exact rfl); intro w' hS)
    exact ⟨rfl, hS.toKeep⟩
  · have ep := pack_bad hp
    rw [ep] at hp ⊢
    repeat'(first|(apply kp;iterate 2 exact rfl)|apply jJ|(apply jE;exact rfl)|(apply jp;exact rfl)|(apply jc;kernel_rfl)|((first|apply kf|apply kn|apply ke|apply kx|apply kc|apply kb);iterate 2 exact rfl)|((first|apply kz|apply ky);(·exact rfl);(·repeat(first|exact iO|exact iR rfl|apply iT));iterate 2 exact rfl)|(apply kg;iterate 2 exact rfl)|(apply kG;iterate 3 exact rfl)|(apply kB;(iterate 2 exact rfl);intro _)|(apply kA;exact rfl;intro _)|(apply kK;(iterate 4 exact rfl);intro _)|(apply kU;(iterate 2 exact rfl);(·repeat(first|exact sH _ _ _|apply sT));(first|exact nfL_eq rfl|exact rfl);exact rfl)|((first|apply kh|apply kl);(iterate 2 exact rfl);(first|decide|omega);exact rfl)|(apply kq; (· exact rfl); (· intro w1 h1; (have hq := CallsTo.q (d17 m a c w1 (h1.rd_of (by (repeat (first | exact mH _ _ | apply mT)))) hz hm hb) h1; show CallsTo Try.prog 17 [m.val a c] w1 _; exact hq)))|((first|(apply kR;iterate 2 exact rfl)|(apply kQ;exact rfl));all_goals(intro hc;try simp only[hcs]at hc;try(exfalso;first|contradiction|omega))))
    (apply ret1; (· exact rfl); intro w' hS)
    exact ⟨congrArg Value.bool (decide_eq_true rfl), hS.toKeep⟩

theorem places_bad {l : List Int} (h : ¬ (places l).2 = 0) : (places l).1 = [] := by
  unfold places at h ⊢
  split
  · rfl
  · rename_i h0
    rw [if_neg h0] at h
    split
    · rfl
    · rename_i h1
      rw [if_neg h1] at h
      split
      · rfl
      · rename_i h2
        rw [if_neg h2] at h
        split
        · rfl
        · rename_i h3
          rw [if_neg h3] at h
          exact absurd rfl h
theorem rows_i64 : ∀ (n : Nat) (l : List Int), plcsI (rows n l).1
  | 0, l => fun p hp => by simp [rows] at hp
  | n + 1, l => by
    rw [rows]
    split
    · intro p hp; simp at hp
    · intro p hp
      rcases List.mem_cons.1 hp with rfl | hp
      · exact plcOf_i64 (decs_bound 4 l)
      · exact rows_i64 n _ p hp
theorem places_i64 (l : List Int) : plcsI (places l).1 := by
  have z : plcsI [] := fun p hp => by simp at hp
  unfold places
  split
  · exact z
  · split
    · exact z
    · split
      · exact z
      · split
        · exact z
        · exact rows_i64 _ _

set_option maxHeartbeats 4000000 in
theorem c7 (a : Option Addr) (c : Nat) (l : List Int) (x : Int) (w : World) (hr : Rd w a (bv l)) (hz : a = none → c = 0) (hm : l.length ≤ 140737488351232) (hb : Byt l) (hx : 0 ≤ x ∧ x < 256) :
    CallsTo Try.prog 7 [.slice a l.length c, .int .u8 x] w fun v w' => v = .bool true ∧ Grew w w' := by
  have hub := unpack_body l
  have hpl := places_len l
  have hby : Byt (l ++ [x]) := hb.append (fun b h => by simp at h; subst h; exact hx)
  have elx : (l ++ [x]).length = l.length + 1 := by simp
  refine go_in (n := 85) (St.rd1 hr) Try.func7 rfl rfl ?_
  repeat'(first|(apply kp;iterate 2 exact rfl)|apply jJ|(apply jE;exact rfl)|(apply jp;exact rfl)|(apply jc;kernel_rfl)|((first|apply kf|apply kn|apply ke|apply kx|apply kc|apply kb);iterate 2 exact rfl)|((first|apply kz|apply ky);(·exact rfl);(·repeat(first|exact iO|exact iR rfl|apply iT));iterate 2 exact rfl)|(apply kg;iterate 2 exact rfl)|(apply kG;iterate 3 exact rfl)|(apply kB;(iterate 2 exact rfl);intro _)|(apply kA;exact rfl;intro _)|(apply kK;(iterate 4 exact rfl);intro _)|(apply kU;(iterate 2 exact rfl);(·repeat(first|exact sH _ _ _|apply sT));(first|exact nfL_eq rfl|exact rfl);exact rfl)|((first|apply kh|apply kl);(iterate 2 exact rfl);(first|decide|omega);exact rfl)|(apply kq; (· exact rfl); (· intro w1 h1; exact CallsTo.q (c21 w1) h1))|((first|(apply kR;iterate 2 exact rfl)|(apply kQ;exact rfl));all_goals(intro hc;try simp only[hcs]at hc;try(exfalso;first|contradiction|omega))))
  apply LR.call
  · exact rfl
  intro w1 h1
  refine (c22 a c l w1 (h1.rd_of (by (repeat (first | exact mH _ _ | apply mT)))) hz (by omega)).mono ?_
  rintro v w2 ⟨ai, ci, rfl, hn⟩
  refine LR.back (h1.newSl hn) ?_
  clear hn h1
  repeat'(first|(apply kp;iterate 2 exact rfl)|apply jJ|(apply jE;exact rfl)|(apply jp;exact rfl)|(apply jc;kernel_rfl)|((first|apply kf|apply kn|apply ke|apply kx|apply kc|apply kb);iterate 2 exact rfl)|((first|apply kz|apply ky);(·exact rfl);(·repeat(first|exact iO|exact iR rfl|apply iT));iterate 2 exact rfl)|(apply kg;iterate 2 exact rfl)|(apply kG;iterate 3 exact rfl)|(apply kB;(iterate 2 exact rfl);intro _)|(apply kA;exact rfl;intro _)|(apply kK;(iterate 4 exact rfl);intro _)|(apply kU;(iterate 2 exact rfl);(·repeat(first|exact sH _ _ _|apply sT));(first|exact nfL_eq rfl|exact rfl);exact rfl)|((first|apply kh|apply kl);(iterate 2 exact rfl);(first|decide|omega);exact rfl)|(refine LR.append (xs := bv l) (news := [.int .u8 x]) (m := 1) rfl rfl (fun a' c' => sT _ (sH _ _ _)) (fun w' hw' => hw'.rd_of_blk (mH _ _)) (fun hx => by cases hx) rfl rfl (by omega) (by unfold maxLen; omega) rfl ?_; intro ay cy)|((first|(apply kR;iterate 2 exact rfl)|(apply kQ;exact rfl));all_goals(intro hc;try simp only[hcs]at hc;try(exfalso;first|contradiction|omega))))
  rename_i bx
  rw [← elx, show bv l ++ [Value.int .u8 x] = bv (l ++ [x]) by simp [bv]]
  generalize hy : l ++ [x] = y at *
  refine LR.sub (D := St w NoF [osl (.slice ay y.length cy) 5 1 y.length (bv y), rdA a (bv l)]) (fun w hw => hw.sub (by repeat (first | exact List.Sublist.refl _ | apply List.Sublist.cons_cons | apply List.Sublist.cons))) ?_
  repeat'(first|(apply kp;iterate 2 exact rfl)|apply jJ|(apply jE;exact rfl)|(apply jp;exact rfl)|(apply jc;kernel_rfl)|((first|apply kf|apply kn|apply ke|apply kx|apply kc|apply kb);iterate 2 exact rfl)|((first|apply kz|apply ky);(·exact rfl);(·repeat(first|exact iO|exact iR rfl|apply iT));iterate 2 exact rfl)|(apply kg;iterate 2 exact rfl)|(apply kG;iterate 3 exact rfl)|(apply kB;(iterate 2 exact rfl);intro _)|(apply kA;exact rfl;intro _)|(apply kK;(iterate 4 exact rfl);intro _)|(apply kU;(iterate 2 exact rfl);(·repeat(first|exact sH _ _ _|apply sT));(first|exact nfL_eq rfl|exact rfl);exact rfl)|((first|apply kh|apply kl);(iterate 2 exact rfl);(first|decide|omega);exact rfl)|((first|(apply kR;iterate 2 exact rfl)|(apply kQ;exact rfl));all_goals(intro hc;try simp only[hcs]at hc;try(exfalso;first|contradiction|omega))))
  apply LR.call
  · exact rfl
  intro w1 h1
  refine (d23 a c l w1 (h1.rd_of (by (repeat (first | exact mH _ _ | apply mT)))) hz (by omega) hb).mono ?_
  rintro v w2 ⟨a1, c1, rfl, hn⟩
  refine LR.back (h1.newSl hn) ?_
  clear hn h1
  repeat'(first|(apply kp;iterate 2 exact rfl)|apply jJ|(apply jE;exact rfl)|(apply jp;exact rfl)|(apply jc;kernel_rfl)|((first|apply kf|apply kn|apply ke|apply kx|apply kc|apply kb);iterate 2 exact rfl)|((first|apply kz|apply ky);(·exact rfl);(·repeat(first|exact iO|exact iR rfl|apply iT));iterate 2 exact rfl)|(apply kg;iterate 2 exact rfl)|(apply kG;iterate 3 exact rfl)|(apply kB;(iterate 2 exact rfl);intro _)|(apply kA;exact rfl;intro _)|(apply kK;(iterate 4 exact rfl);intro _)|(apply kU;(iterate 2 exact rfl);(·repeat(first|exact sH _ _ _|apply sT));(first|exact nfL_eq rfl|exact rfl);exact rfl)|((first|apply kh|apply kl);(iterate 2 exact rfl);(first|decide|omega);exact rfl)|((first|(apply kR;iterate 2 exact rfl)|(apply kQ;exact rfl));all_goals(intro hc;try simp only[hcs]at hc;try(exfalso;first|contradiction|omega))))
  have hmy : y.length ≤ 140737488355328 := by omega
  · rename (unpack l).2 = 0 => hu0
    obtain ⟨hck, hbm⟩ := unpack_canon hb hu0
    have hmore := unpack_more hck x
    rw [hbm, hy] at hmore
    have hpk : pack (unpack l).1 = (l, 0) := by unfold pack; rw [if_neg (by simpa using hck), hbm]
    apply LR.call
    · exact rfl
    intro w1 h1
    refine CallsTo.mono (show CallsTo Try.prog 15 [(unpack l).1.val a1 c1] w1 _ from c15 (unpack l).1 a1 c1 w1 (h1.rd_of_own (mT _ (mH _ _))) (fun e => (ownsRow_some h1.g1 e).2) (by omega) (fun b hb' => hb b (hub.2 b hb'))) ?_
    rw [hpk]
    rintro v w2 ⟨a2, c2, rfl, hn⟩
    refine LR.back (h1.newSl hn) ?_
    clear hn h1
    repeat'(first|(apply kp;iterate 2 exact rfl)|apply jJ|(apply jE;exact rfl)|(apply jp;exact rfl)|(apply jc;kernel_rfl)|((first|apply kf|apply kn|apply ke|apply kx|apply kc|apply kb);iterate 2 exact rfl)|((first|apply kz|apply ky);(·exact rfl);(·repeat(first|exact iO|exact iR rfl|apply iT));iterate 2 exact rfl)|(apply kg;iterate 2 exact rfl)|(apply kG;iterate 3 exact rfl)|(apply kB;(iterate 2 exact rfl);intro _)|(apply kA;exact rfl;intro _)|(apply kK;(iterate 4 exact rfl);intro _)|(apply kU;(iterate 2 exact rfl);(·repeat(first|exact sH _ _ _|apply sT));(first|exact nfL_eq rfl|exact rfl);exact rfl)|((first|apply kh|apply kl);(iterate 2 exact rfl);(first|decide|omega);exact rfl)|((first|(apply kR;iterate 2 exact rfl)|(apply kQ;exact rfl));all_goals(intro hc;try simp only[hcs]at hc;try(exfalso;first|contradiction|omega))))
    apply LR.call
    · exact rfl
    intro w1 h1
    refine (d23 ay cy y w1 (h1.rd_of_own (by (repeat (first | exact mH _ _ | apply mT)))) (fun e => (ownsRow_some (h1.holds (osl (.slice ay y.length cy) 5 1 y.length (bv y)) (by (repeat (first | exact mH _ _ | apply mT)))) e).2) (by omega) hby).mono ?_
    rw [hmore]
    rintro v w2 ⟨a3, c3, rfl, hn⟩
    refine LR.back (h1.newSl hn) ?_
    clear hn h1
    repeat'(first|(apply kp;iterate 2 exact rfl)|apply jJ|(apply jE;exact rfl)|(apply jp;exact rfl)|(apply jc;kernel_rfl)|((first|apply kf|apply kn|apply ke|apply kx|apply kc|apply kb);iterate 2 exact rfl)|((first|apply kz|apply ky);(·exact rfl);(·repeat(first|exact iO|exact iR rfl|apply iT));iterate 2 exact rfl)|(apply kg;iterate 2 exact rfl)|(apply kG;iterate 3 exact rfl)|(apply kB;(iterate 2 exact rfl);intro _)|(apply kA;exact rfl;intro _)|(apply kK;(iterate 4 exact rfl);intro _)|(apply kU;(iterate 2 exact rfl);(·repeat(first|exact sH _ _ _|apply sT));(first|exact nfL_eq rfl|exact rfl);exact rfl)|((first|apply kh|apply kl);(iterate 2 exact rfl);(first|decide|omega);exact rfl)|(apply kq; (· exact rfl); (· intro w1 h1; exact CallsTo.q (c19 a2 a c2 c l l w1 (h1.rd_of_own (by (repeat (first | exact mH _ _ | apply mT)))) (h1.rd_of (by (repeat (first | exact mH _ _ | apply mT)))) (by omega)) h1))|((first|(apply kR;iterate 2 exact rfl)|(apply kQ;exact rfl));all_goals(intro hc;try simp only[hcs]at hc;try(exfalso;first|contradiction|omega))))
    apply LR.call
    · exact rfl
    intro w1 h1
    refine (c25 a c l w1 (h1.rd_of (by (repeat (first | exact mH _ _ | apply mT)))) hz (by omega) hb).mono ?_
    rintro v w2 ⟨a5, c5, rfl, hn⟩
    refine LR.back (h1.newSl hn) ?_
    clear hn h1
    by_cases hp : (places l).2 = 0
    · have hch := places_canon hb hp
      have hpm : places y = ([], 4) := by
        have h0 : (charts (places l).1).2 = 0 := by rw [hch]
        have h2 := (charts_ok h0).2.2
        rw [hch] at h2
        have h3 := places_enc [x] h0
        rw [← show l = plcsBytes (places l).1 from congrArg Prod.fst h2, if_pos (by simp), hy] at h3
        exact h3
      repeat'(first|(apply kp;iterate 2 exact rfl)|apply jJ|(apply jE;exact rfl)|(apply jp;exact rfl)|(apply jc;kernel_rfl)|((first|apply kf|apply kn|apply ke|apply kx|apply kc|apply kb);iterate 2 exact rfl)|((first|apply kz|apply ky);(·exact rfl);(·repeat(first|exact iO|exact iR rfl|apply iT));iterate 2 exact rfl)|(apply kg;iterate 2 exact rfl)|(apply kG;iterate 3 exact rfl)|(apply kB;(iterate 2 exact rfl);intro _)|(apply kA;exact rfl;intro _)|(apply kK;(iterate 4 exact rfl);intro _)|(apply kU;(iterate 2 exact rfl);(·repeat(first|exact sH _ _ _|apply sT));(first|exact nfL_eq rfl|exact rfl);exact rfl)|((first|apply kh|apply kl);(iterate 2 exact rfl);(first|decide|omega);exact rfl)|((first|(apply kR;iterate 2 exact rfl)|(apply kQ;exact rfl));all_goals(intro hc;try simp only[hcs]at hc;try(exfalso;first|contradiction|omega))))
      apply LR.call
      · exact rfl
      intro w1 h1
      refine (c28 a5 c5 (places l).1 w1 (h1.rd_of_own (mH _ _)) (by omega) (places_i64 l)).mono ?_
      rw [hch]
      rintro v w2 ⟨a6, c6, rfl, hn⟩
      refine LR.back (h1.newSl hn) ?_
      clear hn h1
      repeat'(first|(apply kp;iterate 2 exact rfl)|apply jJ|(apply jE;exact rfl)|(apply jp;exact rfl)|(apply jc;kernel_rfl)|((first|apply kf|apply kn|apply ke|apply kx|apply kc|apply kb);iterate 2 exact rfl)|((first|apply kz|apply ky);(·exact rfl);(·repeat(first|exact iO|exact iR rfl|apply iT));iterate 2 exact rfl)|(apply kg;iterate 2 exact rfl)|(apply kG;iterate 3 exact rfl)|(apply kB;(iterate 2 exact rfl);intro _)|(apply kA;exact rfl;intro _)|(apply kK;(iterate 4 exact rfl);intro _)|(apply kU;(iterate 2 exact rfl);(·repeat(first|exact sH _ _ _|apply sT));(first|exact nfL_eq rfl|exact rfl);exact rfl)|((first|apply kh|apply kl);(iterate 2 exact rfl);(first|decide|omega);exact rfl)|((first|(apply kR;iterate 2 exact rfl)|(apply kQ;exact rfl));all_goals(intro hc;try simp only[hcs]at hc;try(exfalso;first|contradiction|omega))))
      apply LR.call
      · exact rfl
      intro w1 h1
      refine (c25 ay cy y w1 (h1.rd_of_own (by (repeat (first | exact mH _ _ | apply mT)))) (fun e => (ownsRow_some (h1.holds (osl (.slice ay y.length cy) 5 1 y.length (bv y)) (by (repeat (first | exact mH _ _ | apply mT)))) e).2) (by omega) hby).mono ?_
      rw [hpm]
      rintro v w2 ⟨a7, c7, rfl, hn⟩
      refine LR.back (h1.newSl hn) ?_
      clear hn h1
      repeat'(first|(apply kp;iterate 2 exact rfl)|apply jJ|(apply jE;exact rfl)|(apply jp;exact rfl)|(apply jc;kernel_rfl)|((first|apply kf|apply kn|apply ke|apply kx|apply kc|apply kb);iterate 2 exact rfl)|((first|apply kz|apply ky);(·exact rfl);(·repeat(first|exact iO|exact iR rfl|apply iT));iterate 2 exact rfl)|(apply kg;iterate 2 exact rfl)|(apply kG;iterate 3 exact rfl)|(apply kB;(iterate 2 exact rfl);intro _)|(apply kA;exact rfl;intro _)|(apply kK;(iterate 4 exact rfl);intro _)|(apply kU;(iterate 2 exact rfl);(·repeat(first|exact sH _ _ _|apply sT));(first|exact nfL_eq rfl|exact rfl);exact rfl)|((first|apply kh|apply kl);(iterate 2 exact rfl);(first|decide|omega);exact rfl)|(apply kq; (· exact rfl); (· intro w1 h1; exact CallsTo.q (c19 a6 a c6 c l l w1 (h1.rd_of_own (by (repeat (first | exact mH _ _ | apply mT)))) (h1.rd_of (by (repeat (first | exact mH _ _ | apply mT)))) (by omega)) h1))|((first|(apply kR;iterate 2 exact rfl)|(apply kQ;exact rfl));all_goals(intro hc;try simp only[hcs]at hc;try(exfalso;first|contradiction|omega))))
      (apply ret1; (· exact rfl); intro w' hS)
      exact ⟨rfl, hS.toKeep⟩
    · have hpe := places_bad hp
      rw [hpe]
      repeat'(first|(apply kp;iterate 2 exact rfl)|apply jJ|(apply jE;exact rfl)|(apply jp;exact rfl)|(apply jc;kernel_rfl)|((first|apply kf|apply kn|apply ke|apply kx|apply kc|apply kb);iterate 2 exact rfl)|((first|apply kz|apply ky);(·exact rfl);(·repeat(first|exact iO|exact iR rfl|apply iT));iterate 2 exact rfl)|(apply kg;iterate 2 exact rfl)|(apply kG;iterate 3 exact rfl)|(apply kB;(iterate 2 exact rfl);intro _)|(apply kA;exact rfl;intro _)|(apply kK;(iterate 4 exact rfl);intro _)|(apply kU;(iterate 2 exact rfl);(·repeat(first|exact sH _ _ _|apply sT));(first|exact nfL_eq rfl|exact rfl);exact rfl)|((first|apply kh|apply kl);(iterate 2 exact rfl);(first|decide|omega);exact rfl)|((first|(apply kR;iterate 2 exact rfl)|(apply kQ;exact rfl));all_goals(intro hc;try simp only[hcs]at hc;try(exfalso;first|contradiction|omega))))
      (apply ret1; (· exact rfl); intro w' hS)
      exact ⟨rfl, hS.toKeep⟩
  · repeat'(first|(apply kp;iterate 2 exact rfl)|apply jJ|(apply jE;exact rfl)|(apply jp;exact rfl)|(apply jc;kernel_rfl)|((first|apply kf|apply kn|apply ke|apply kx|apply kc|apply kb);iterate 2 exact rfl)|((first|apply kz|apply ky);(·exact rfl);(·repeat(first|exact iO|exact iR rfl|apply iT));iterate 2 exact rfl)|(apply kg;iterate 2 exact rfl)|(apply kG;iterate 3 exact rfl)|(apply kB;(iterate 2 exact rfl);intro _)|(apply kA;exact rfl;intro _)|(apply kK;(iterate 4 exact rfl);intro _)|(apply kU;(iterate 2 exact rfl);(·repeat(first|exact sH _ _ _|apply sT));(first|exact nfL_eq rfl|exact rfl);exact rfl)|((first|apply kh|apply kl);(iterate 2 exact rfl);(first|decide|omega);exact rfl)|((first|(apply kR;iterate 2 exact rfl)|(apply kQ;exact rfl));all_goals(intro hc;try simp only[hcs]at hc;try(exfalso;first|contradiction|omega))))
    apply LR.call
    · exact rfl
    intro w1 h1
    refine (c25 a c l w1 (h1.rd_of (by (repeat (first | exact mH _ _ | apply mT)))) hz (by omega) hb).mono ?_
    rintro v w2 ⟨a5, c5, rfl, hn⟩
    refine LR.back (h1.newSl hn) ?_
    clear hn h1
    by_cases hp : (places l).2 = 0
    · have hch := places_canon hb hp
      have hpm : places y = ([], 4) := by
        have h0 : (charts (places l).1).2 = 0 := by rw [hch]
        have h2 := (charts_ok h0).2.2
        rw [hch] at h2
        have h3 := places_enc [x] h0
        rw [← show l = plcsBytes (places l).1 from congrArg Prod.fst h2, if_pos (by simp), hy] at h3
        exact h3
      repeat'(first|(apply kp;iterate 2 exact rfl)|apply jJ|(apply jE;exact rfl)|(apply jp;exact rfl)|(apply jc;kernel_rfl)|((first|apply kf|apply kn|apply ke|apply kx|apply kc|apply kb);iterate 2 exact rfl)|((first|apply kz|apply ky);(·exact rfl);(·repeat(first|exact iO|exact iR rfl|apply iT));iterate 2 exact rfl)|(apply kg;iterate 2 exact rfl)|(apply kG;iterate 3 exact rfl)|(apply kB;(iterate 2 exact rfl);intro _)|(apply kA;exact rfl;intro _)|(apply kK;(iterate 4 exact rfl);intro _)|(apply kU;(iterate 2 exact rfl);(·repeat(first|exact sH _ _ _|apply sT));(first|exact nfL_eq rfl|exact rfl);exact rfl)|((first|apply kh|apply kl);(iterate 2 exact rfl);(first|decide|omega);exact rfl)|((first|(apply kR;iterate 2 exact rfl)|(apply kQ;exact rfl));all_goals(intro hc;try simp only[hcs]at hc;try(exfalso;first|contradiction|omega))))
      apply LR.call
      · exact rfl
      intro w1 h1
      refine (c28 a5 c5 (places l).1 w1 (h1.rd_of_own (mH _ _)) (by omega) (places_i64 l)).mono ?_
      rw [hch]
      rintro v w2 ⟨a6, c6, rfl, hn⟩
      refine LR.back (h1.newSl hn) ?_
      clear hn h1
      repeat'(first|(apply kp;iterate 2 exact rfl)|apply jJ|(apply jE;exact rfl)|(apply jp;exact rfl)|(apply jc;kernel_rfl)|((first|apply kf|apply kn|apply ke|apply kx|apply kc|apply kb);iterate 2 exact rfl)|((first|apply kz|apply ky);(·exact rfl);(·repeat(first|exact iO|exact iR rfl|apply iT));iterate 2 exact rfl)|(apply kg;iterate 2 exact rfl)|(apply kG;iterate 3 exact rfl)|(apply kB;(iterate 2 exact rfl);intro _)|(apply kA;exact rfl;intro _)|(apply kK;(iterate 4 exact rfl);intro _)|(apply kU;(iterate 2 exact rfl);(·repeat(first|exact sH _ _ _|apply sT));(first|exact nfL_eq rfl|exact rfl);exact rfl)|((first|apply kh|apply kl);(iterate 2 exact rfl);(first|decide|omega);exact rfl)|((first|(apply kR;iterate 2 exact rfl)|(apply kQ;exact rfl));all_goals(intro hc;try simp only[hcs]at hc;try(exfalso;first|contradiction|omega))))
      apply LR.call
      · exact rfl
      intro w1 h1
      refine (c25 ay cy y w1 (h1.rd_of_own (by (repeat (first | exact mH _ _ | apply mT)))) (fun e => (ownsRow_some (h1.holds (osl (.slice ay y.length cy) 5 1 y.length (bv y)) (by (repeat (first | exact mH _ _ | apply mT)))) e).2) (by omega) hby).mono ?_
      rw [hpm]
      rintro v w2 ⟨a7, c7, rfl, hn⟩
      refine LR.back (h1.newSl hn) ?_
      clear hn h1
      repeat'(first|(apply kp;iterate 2 exact rfl)|apply jJ|(apply jE;exact rfl)|(apply jp;exact rfl)|(apply jc;kernel_rfl)|((first|apply kf|apply kn|apply ke|apply kx|apply kc|apply kb);iterate 2 exact rfl)|((first|apply kz|apply ky);(·exact rfl);(·repeat(first|exact iO|exact iR rfl|apply iT));iterate 2 exact rfl)|(apply kg;iterate 2 exact rfl)|(apply kG;iterate 3 exact rfl)|(apply kB;(iterate 2 exact rfl);intro _)|(apply kA;exact rfl;intro _)|(apply kK;(iterate 4 exact rfl);intro _)|(apply kU;(iterate 2 exact rfl);(·repeat(first|exact sH _ _ _|apply sT));(first|exact nfL_eq rfl|exact rfl);exact rfl)|((first|apply kh|apply kl);(iterate 2 exact rfl);(first|decide|omega);exact rfl)|(apply kq; (· exact rfl); (· intro w1 h1; exact CallsTo.q (c19 a6 a c6 c l l w1 (h1.rd_of_own (by (repeat (first | exact mH _ _ | apply mT)))) (h1.rd_of (by (repeat (first | exact mH _ _ | apply mT)))) (by omega)) h1))|((first|(apply kR;iterate 2 exact rfl)|(apply kQ;exact rfl));all_goals(intro hc;try simp only[hcs]at hc;try(exfalso;first|contradiction|omega))))
      (apply ret1; (· exact rfl); intro w' hS)
      exact ⟨rfl, hS.toKeep⟩
    · have hpe := places_bad hp
      rw [hpe]
      repeat'(first|(apply kp;iterate 2 exact rfl)|apply jJ|(apply jE;exact rfl)|(apply jp;exact rfl)|(apply jc;kernel_rfl)|((first|apply kf|apply kn|apply ke|apply kx|apply kc|apply kb);iterate 2 exact rfl)|((first|apply kz|apply ky);(·exact rfl);(·repeat(first|exact iO|exact iR rfl|apply iT));iterate 2 exact rfl)|(apply kg;iterate 2 exact rfl)|(apply kG;iterate 3 exact rfl)|(apply kB;(iterate 2 exact rfl);intro _)|(apply kA;exact rfl;intro _)|(apply kK;(iterate 4 exact rfl);intro _)|(apply kU;(iterate 2 exact rfl);(·repeat(first|exact sH _ _ _|apply sT));(first|exact nfL_eq rfl|exact rfl);exact rfl)|((first|apply kh|apply kl);(iterate 2 exact rfl);(first|decide|omega);exact rfl)|((first|(apply kR;iterate 2 exact rfl)|(apply kQ;exact rfl));all_goals(intro hc;try simp only[hcs]at hc;try(exfalso;first|contradiction|omega))))
      (apply ret1; (· exact rfl); intro w' hS)
      exact ⟨rfl, hS.toKeep⟩
end Go.Proofs.Ytomlgnncncjmaaa

namespace Go.Proofs.Ytomlgnncncjmaaa
open Go.Hb
attribute [local irreducible] LR CW At Ev thn blk finK noG again CallsTo DW QL dnext
set_option linter.unusedSimpArgs false
set_option linter.unusedVariables false
set_option maxRecDepth 100000

def bring (i n : Int) : Int := if n ≤ 0 then 0 else if i.tmod n < 0 then i.tmod n + n else i.tmod n
theorem tmod_bd (i n : Int) (h : 0 < n) : -n < i.tmod n ∧ i.tmod n < n := by
  have h1 := Int.tmod_lt_of_pos i h
  have h2 := Int.tmod_lt_of_pos (-i) h
  rw [Int.neg_tmod] at h2
  omega
theorem bring_bd (i n : Int) (h : 0 < n) : 0 ≤ bring i n ∧ bring i n < n := by
  have := tmod_bd i n h
  unfold bring; rw [if_neg (by omega)]; split <;> omega
theorem c31 (i n : Int) (w : World) (hn : n ≤ 9223372036854775807) : CallsTo Try.prog 31 [.int .i64 i, .int .i64 n] w fun v w' => v = .int .i64 (bring i n) ∧ Grew w w' := by
  refine go_in (n := 16) (St.refl _ NoF) Try.func31 rfl rfl ?_
  by_cases h : n ≤ 0
  · repeat'(first|(apply kp;iterate 2 exact rfl)|apply jJ|(apply jE;exact rfl)|(apply jp;exact rfl)|(apply jc;kernel_rfl)|((first|apply kf|apply kn|apply ke|apply kx|apply kc|apply kb);iterate 2 exact rfl)|((first|apply kz|apply ky);(·exact rfl);(·repeat(first|exact iO|exact iR rfl|apply iT));iterate 2 exact rfl)|(apply kg;iterate 2 exact rfl)|(apply kG;iterate 3 exact rfl)|(apply kB;(iterate 2 exact rfl);intro _)|(apply kA;exact rfl;intro _)|(apply kK;(iterate 4 exact rfl);intro _)|(apply kU;(iterate 2 exact rfl);(·repeat(first|exact sH _ _ _|apply sT));(first|exact nfL_eq rfl|exact rfl);exact rfl)|((first|apply kh|apply kl);(iterate 2 exact rfl);(first|decide|omega);exact rfl)|((first|(apply kR;iterate 2 exact rfl)|(apply kQ;exact rfl));all_goals(intro hc;try simp only[hcs]at hc;try(exfalso;first|contradiction|omega))))
    (apply ret1; (· exact rfl); intro w' hS)
    exact ⟨congrArg (Value.int .i64) (by unfold bring; rw [if_pos h]), hS⟩
  · have hb := tmod_bd i n (by omega)
    repeat'(first|(apply kp;iterate 2 exact rfl)|apply jJ|(apply jE;exact rfl)|(apply jp;exact rfl)|(apply jc;kernel_rfl)|((first|apply kf|apply kn|apply ke|apply kx|apply kc|apply kb);iterate 2 exact rfl)|((first|apply kz|apply ky);(·exact rfl);(·repeat(first|exact iO|exact iR rfl|apply iT));iterate 2 exact rfl)|(apply kg;iterate 2 exact rfl)|(apply kG;iterate 3 exact rfl)|(apply kB;(iterate 2 exact rfl);intro _)|(apply kA;exact rfl;intro _)|(apply kK;(iterate 4 exact rfl);intro _)|(apply kU;(iterate 2 exact rfl);(·repeat(first|exact sH _ _ _|apply sT));(first|exact nfL_eq rfl|exact rfl);exact rfl)|((first|apply kh|apply kl);(iterate 2 exact rfl);(first|decide|omega);exact rfl)|(apply LR.ev; (· apply Ev.rem; (· exact rfl); (· exact rfl); (· first | decide | omega)); (· exact rfl))|(apply addX;(iterate 2 exact rfl);(iterate 2(first|omega|(dsimp only;omega)));exact rfl)|((first|(apply kR;iterate 2 exact rfl)|(apply kQ;exact rfl));all_goals(intro hc;try simp only[hcs]at hc;try(exfalso;first|contradiction|omega))))
    all_goals (
      (apply ret1; (· exact rfl); intro w' hS)
      refine ⟨congrArg (Value.int .i64) ?_, hS⟩
      unfold bring; rw [if_neg h]
      first | rw [if_pos (by omega)] | rw [if_neg (by omega)])

theorem pack_snd (m : Msg) : (pack m).2 = check m := by
  unfold pack
  split
  · rfl
  · rename_i h; simp only [ne_eq, Decidable.not_not] at h; exact h.symm
structure Dat where
  rseq : Int
  rrep : Int
  seq : Int
  sender : Int
  stamp : Int
  msg : Msg
def Dat.cells (d : Dat) (a : Option Addr) (c : Nat) : List Value := .int .i64 d.rseq :: .int .i64 d.rrep :: .int .i64 d.seq :: .int .i64 d.sender :: .int .i64 d.stamp :: d.msg.cells a c
def Dat.val (d : Dat) (a : Option Addr) (c : Nat) : Value := .agg (d.cells a c).toArray
def zeroDat : Dat := ⟨0, 0, 0, 0, 0, zeroMsg⟩
def mayOld (d : Dat) : Bool := decide (¬ (d.rseq = 0 ∧ d.rrep = 0) ∧ ringE d.rseq d.rrep = 0 ∧ 1 ≤ d.seq ∧ d.seq ≤ 9007199254740991 ∧ 1 ≤ d.sender ∧ d.sender ≤ 8 ∧ 0 ≤ d.stamp ∧ d.stamp ≤ 9007199254740991)
def oldM (d : Dat) : Msg := ⟨5, d.sender, 0, d.sender, 0, 0, 0, false, d.stamp, d.rseq, d.rrep, d.seq, bytesM d.msg⟩
def old (d : Dat) : Msg × Int := if mayOld d = true ∧ check d.msg = 0 ∧ d.msg.kind ≠ 5 then (oldM d, 0) else (zeroMsg, 2)
def innerD (m : Msg) : Dat := ⟨m.rseq, m.rrep, m.kseq, m.id, m.stamp, (unpack m.body).1⟩
def inner (m : Msg) : Dat × Int := if check m = 0 ∧ m.kind = 5 then (innerD m, 0) else (zeroDat, 2)
theorem check_old {m : Msg} (h : check m = 0) (hk : m.kind = 5) : plainB m = true ∧ 1 ≤ m.id ∧ m.id ≤ 8 ∧ ¬ (m.rseq = 0 ∧ m.rrep = 0) ∧ 0 < m.kseq ∧ (unpack m.body).2 = 0 ∧ (unpack m.body).1.kind ≠ 5 := by
  have h2 := (check_ok h).2
  unfold mayB at h2
  simp only [Bool.and_eq_true] at h2
  have h3 := h2.2
  unfold kindB at h3
  rw [hk] at h3
  simp only [show ¬ ((5 : Int) = 1) by omega, show ¬ ((5 : Int) = 2) by omega, show ¬ ((5 : Int) = 3) by omega, show ¬ ((5 : Int) = 4) by omega, if_false, if_true] at h3
  unfold oldB at h3
  simp only [Bool.and_eq_true, decide_eq_true_eq] at h3
  exact ⟨h3.1, h3.2⟩

set_option maxHeartbeats 4000000 in
theorem c32 (d : Dat) (a : Option Addr) (c : Nat) (w : World) (hr : Rd w a (bv d.msg.body)) (hz : a = none → c = 0) (hm : d.msg.body.length ≤ 140737488355328) (hb : Byt d.msg.body) :
    CallsTo Try.prog 32 [d.val a c] w fun v w' => ∃ a2 c2, v = .tuple [(old d).1.val a2 c2, .int .i64 (old d).2].toArray ∧ NewSl w w' (.slice a2 (old d).1.body.length c2) 5 1 (old d).1.body.length (bv (old d).1.body) := by
  refine go_in (n := 64) (St.rd1 hr) Try.func32 rfl rfl ?_
  have nils : ∀ w', Grew w w' → NewSl w w' (.slice none 0 0) 5 1 0 (bv []) := fun w' hg => ⟨hg, World.ownsRow_nil _ _ _ _⟩
  repeat'(first|(apply kp;iterate 2 exact rfl)|apply jJ|(apply jE;exact rfl)|(apply jp;exact rfl)|(apply jc;kernel_rfl)|((first|apply kf|apply kn|apply ke|apply kx|apply kc|apply kb);iterate 2 exact rfl)|((first|apply kz|apply ky);(·exact rfl);(·repeat(first|exact iO|exact iR rfl|apply iT));iterate 2 exact rfl)|(apply kg;iterate 2 exact rfl)|(apply kG;iterate 3 exact rfl)|(apply kB;(iterate 2 exact rfl);intro _)|(apply kA;exact rfl;intro _)|(apply kK;(iterate 4 exact rfl);intro _)|(apply kU;(iterate 2 exact rfl);(·repeat(first|exact sH _ _ _|apply sT));(first|exact nfL_eq rfl|exact rfl);exact rfl)|((first|apply kh|apply kl);(iterate 2 exact rfl);(first|decide|omega);exact rfl)|(apply kq;(·exact rfl);(·intro w1 h1;exact CallsTo.q (c81 _ _ w1) h1))|(apply kq;(·exact rfl);(·intro w1 h1;exact CallsTo.q (c59 _ _ _ w1) h1))|((first|(apply kR;iterate 2 exact rfl)|(apply kQ;exact rfl));all_goals(intro hc;try simp only[hcs]at hc;try(exfalso;first|contradiction|omega))))
  all_goals (
    apply LR.call
    · exact rfl
    intro w1 h1
    refine CallsTo.mono (show CallsTo Try.prog 15 [d.msg.val a c] w1 _ from c15 d.msg a c w1 (h1.rd_of (by (repeat (first | exact mH _ _ | apply mT)))) hz hm hb) ?_
    rintro v w2 ⟨a1, c1, rfl, hn⟩
    refine LR.back (h1.newSl hn) ?_
    clear hn h1
    repeat'(first|(apply kp;iterate 2 exact rfl)|apply jJ|(apply jE;exact rfl)|(apply jp;exact rfl)|(apply jc;kernel_rfl)|((first|apply kf|apply kn|apply ke|apply kx|apply kc|apply kb);iterate 2 exact rfl)|((first|apply kz|apply ky);(·exact rfl);(·repeat(first|exact iO|exact iR rfl|apply iT));iterate 2 exact rfl)|(apply kg;iterate 2 exact rfl)|(apply kG;iterate 3 exact rfl)|(apply kB;(iterate 2 exact rfl);intro _)|(apply kA;exact rfl;intro _)|(apply kK;(iterate 4 exact rfl);intro _)|(apply kU;(iterate 2 exact rfl);(·repeat(first|exact sH _ _ _|apply sT));(first|exact nfL_eq rfl|exact rfl);exact rfl)|((first|apply kh|apply kl);(iterate 2 exact rfl);(first|decide|omega);exact rfl)|((first|(apply kR;iterate 2 exact rfl)|(apply kQ;exact rfl));all_goals(intro hc;try simp only[hcs]at hc;try(exfalso;first|contradiction|omega))))
    all_goals (
      first
      | (have e : old d = (zeroMsg, 2) := by clear nils; unfold old; rw [if_neg (by simp_all [mayOld, withinB_iff, pack_snd] <;> (intros; omega))]
         (apply ret2c; (· exact rfl); (· exact inferInstance); (· exact rfl); (· (repeat (first | exact List.Mem.head _ | apply List.Mem.tail))); (· exact rfl); intro w' hS)
         rw [e]
         exact ⟨none, 0, rfl, nils w' hS.toKeep⟩)
      | (rename (pack d.msg).2 = 0 => hp
         obtain ⟨hck, ep⟩ := pack_ok hp
         have e : old d = (oldM d, 0) := by clear nils; unfold old; rw [if_pos (by simp_all [mayOld, withinB_iff])]
         (apply ret2c; (· exact rfl); (· exact inferInstance); (· exact rfl); (· (repeat (first | exact List.Mem.head _ | apply List.Mem.tail))); (· exact rfl); intro w' hS)
         rw [e]
         rw [ep] at hS
         refine ⟨a1, c1, ?_, hS.toNew (mH _ _)⟩
         rw [ep]
         rfl)))
theorem zeroD_val : Value.agg [.int .i64 0, .int .i64 0, .int .i64 0, .int .i64 0, .int .i64 0, .int .i64 0, .int .i64 0, .int .i64 0, .int .i64 0, .int .i64 0, .int .i64 0, .int .i64 0, .bool false, .int .i64 0, .int .i64 0, .int .i64 0, .int .i64 0, .slice none 0 0].toArray = zeroDat.val none 0 := rfl

set_option maxHeartbeats 4000000 in
theorem c33 (m : Msg) (a : Option Addr) (c : Nat) (w : World) (hr : Rd w a (bv m.body)) (hz : a = none → c = 0) (hm : m.body.length ≤ 140737488355328) (hb : Byt m.body) :
    CallsTo Try.prog 33 [m.val a c] w fun v w' => ∃ a2 c2, v = .tuple [(inner m).1.val a2 c2, .int .i64 (inner m).2].toArray ∧ NewSl w w' (.slice a2 (inner m).1.msg.body.length c2) 5 1 (inner m).1.msg.body.length (bv (inner m).1.msg.body) := by
  refine go_in (n := 37) (St.rd1 hr) Try.func33 rfl rfl ?_
  have nils : ∀ w', Grew w w' → NewSl w w' (.slice none 0 0) 5 1 0 (bv []) := fun w' hg => ⟨hg, World.ownsRow_nil _ _ _ _⟩
  repeat'(first|(apply kp;iterate 2 exact rfl)|apply jJ|(apply jE;exact rfl)|(apply jp;exact rfl)|(apply jc;kernel_rfl)|((first|apply kf|apply kn|apply ke|apply kx|apply kc|apply kb);iterate 2 exact rfl)|((first|apply kz|apply ky);(·exact rfl);(·repeat(first|exact iO|exact iR rfl|apply iT));iterate 2 exact rfl)|(apply kg;iterate 2 exact rfl)|(apply kG;iterate 3 exact rfl)|(apply kB;(iterate 2 exact rfl);intro _)|(apply kA;exact rfl;intro _)|(apply kK;(iterate 4 exact rfl);intro _)|(apply kU;(iterate 2 exact rfl);(·repeat(first|exact sH _ _ _|apply sT));(first|exact nfL_eq rfl|exact rfl);exact rfl)|((first|apply kh|apply kl);(iterate 2 exact rfl);(first|decide|omega);exact rfl)|(apply kq; (· exact rfl); (· intro w1 h1; have hq := CallsTo.q (d17 m a c w1 (h1.rd_of (by (repeat (first | exact mH _ _ | apply mT)))) hz hm hb) h1; show CallsTo Try.prog 17 [m.val a c] w1 _; exact hq))|((first|(apply kR;iterate 2 exact rfl)|(apply kQ;exact rfl));all_goals(intro hc;try simp only[hcs]at hc;try(exfalso;first|contradiction|omega))))
  rotate_right
  · rename check m = 0 => hck
    rename m.kind = 5 => hk
    have hko := check_old hck hk
    have e : inner m = (innerD m, 0) := by unfold inner; rw [if_pos ⟨hck, hk⟩]
    apply LR.call
    · exact rfl
    intro w1 h1
    refine (d23 a c m.body w1 (h1.rd_of (by (repeat (first | exact mH _ _ | apply mT)))) hz hm hb).mono ?_
    rintro v w2 ⟨a1, c1, rfl, hn⟩
    refine LR.back (h1.newSl hn) ?_
    clear hn h1
    repeat'(first|(apply kp;iterate 2 exact rfl)|apply jJ|(apply jE;exact rfl)|(apply jp;exact rfl)|(apply jc;kernel_rfl)|((first|apply kf|apply kn|apply ke|apply kx|apply kc|apply kb);iterate 2 exact rfl)|((first|apply kz|apply ky);(·exact rfl);(·repeat(first|exact iO|exact iR rfl|apply iT));iterate 2 exact rfl)|(apply kg;iterate 2 exact rfl)|(apply kG;iterate 3 exact rfl)|(apply kB;(iterate 2 exact rfl);intro _)|(apply kA;exact rfl;intro _)|(apply kK;(iterate 4 exact rfl);intro _)|(apply kU;(iterate 2 exact rfl);(·repeat(first|exact sH _ _ _|apply sT));(first|exact nfL_eq rfl|exact rfl);exact rfl)|((first|apply kh|apply kl);(iterate 2 exact rfl);(first|decide|omega);exact rfl)|((first|(apply kR;iterate 2 exact rfl)|(apply kQ;exact rfl));all_goals(intro hc;try simp only[hcs]at hc;try(exfalso;first|contradiction|omega))))
    (apply ret2c; (· exact rfl); (· exact inferInstance); (· exact rfl); (· (repeat (first | exact List.Mem.head _ | apply List.Mem.tail))); (· exact rfl); intro w' hS)
    rw [e]
    exact ⟨a1, c1, rfl, hS.toNew (by (repeat (first | exact mH _ _ | apply mT)))⟩
  all_goals (
    (apply ret2c; (· exact rfl); (· exact inferInstance); (· exact rfl); (· (repeat (first | exact List.Mem.head _ | apply List.Mem.tail))); (· exact rfl); intro w' hS)
    have e : inner m = (zeroDat, 2) := by unfold inner; rw [if_neg (by simp_all)]
    rw [e]
    exact ⟨none, 0, rfl, nils w' hS.toKeep⟩)

set_option maxHeartbeats 4000000 in
theorem c82 (d : Dat) (a : Option Addr) (c : Nat) (w : World) (hr : Rd w a (bv d.msg.body)) (hz : a = none → c = 0) (hm : d.msg.body.length ≤ 140737488355328) (hb : Byt d.msg.body) :
    CallsTo Try.prog 82 [d.val a c] w fun v w' => ∃ a2 c2, v = .tuple [(old d).1.val a2 c2, .int .i64 (old d).2].toArray ∧ NewSl w w' (.slice a2 (old d).1.body.length c2) 5 1 (old d).1.body.length (bv (old d).1.body) := by
  refine go_in (n := 65) (St.rd1 hr) Try.func82 rfl rfl ?_
  have nils : ∀ w', Grew w w' → NewSl w w' (.slice none 0 0) 5 1 0 (bv []) := fun w' hg => ⟨hg, World.ownsRow_nil _ _ _ _⟩
  repeat'(first|(apply CW.reg_held (St w NoF [.own _ (.cells (d.cells a c).toArray 50 (0, 0)), rdA a (bv d.msg.body)]))|(apply kp;iterate 2 exact rfl)|apply jJ|(apply jE;exact rfl)|(apply jp;exact rfl)|(apply jc;kernel_rfl)|((first|apply kf|apply kn|apply ke|apply kx|apply kc|apply kb);iterate 2 exact rfl)|((first|apply kz|apply ky);(·exact rfl);(·repeat(first|exact iO|exact iR rfl|apply iT));iterate 2 exact rfl)|(apply kg;iterate 2 exact rfl)|(apply kG;iterate 3 exact rfl)|(apply kB;(iterate 2 exact rfl);intro _)|(apply kA;exact rfl;intro _)|(apply kK;(iterate 4 exact rfl);intro _)|(apply kU;(iterate 2 exact rfl);(·repeat(first|exact sH _ _ _|apply sT));(first|exact nfL_eq rfl|exact rfl);exact rfl)|((first|apply kh|apply kl);(iterate 2 exact rfl);(first|decide|omega);exact rfl)|(apply kq;(·exact rfl);(·intro w1 h1;exact CallsTo.q (c97 _ _ w1) h1))|(apply kq;(·exact rfl);(·intro w1 h1;exact CallsTo.q (c61 _ w1) h1))|(apply kq;(·exact rfl);(·intro w1 h1;exact CallsTo.q (c62 _ w1) h1))|(apply kq; (· exact rfl); (· intro w1 h1; have hq := CallsTo.q (d18 d.msg a c w1 (h1.rd_of (by (repeat (first | exact mH _ _ | apply mT)))) hz hm hb) h1; show CallsTo Try.prog 18 [d.msg.val a c] w1 _; exact hq))|((first|(apply kR;iterate 2 exact rfl)|(apply kQ;exact rfl));all_goals(intro hc;try simp only[hcs]at hc;try(exfalso;first|contradiction|omega))))
  rotate_right 2
  · rename check d.msg = 0 => hck
    rename ¬ d.msg.kind = 5 => hk
    have e : old d = (oldM d, 0) := by unfold old; rw [if_pos (by simp_all [mayOld, withinB_iff, numB_iff])]
    apply DW.quiet [0, 1, 2, 3, 4, 5, 6, 7, 8, 9, 10, 11, 12]
    · decide +kernel
    · first | exact fun _ h => h | exact fun _ h => St.sub h (by repeat (first | exact List.Sublist.refl _ | apply List.Sublist.cons))
    repeat'(first|(apply yp;iterate 3 exact rfl)|(apply QL.ev;(·exact rfl);(·first|((first|apply Ez|apply Ey);(·exact rfl);(·repeat(first|exact iO|exact iR rfl|apply iT));exact rfl)|((first|apply Ev.fieldAddr|apply Ev.len|apply EqOf.eq|apply EqOf.ne|apply Ev.conv|apply Ev.buildN);exact rfl)|((first|apply Ev.shr|apply Ev.shl);(iterate 2 exact rfl);first|decide|omega));·exact rfl)|(apply yq;iterate 5 exact rfl)|(apply QL.evg;(iterate 3 exact rfl);(·first|((first|apply Ez|apply Ey);(·exact rfl);(·repeat(first|exact iO|exact iR rfl|apply iT));exact rfl)|((first|apply Ev.fieldAddr|apply Ev.len|apply EqOf.eq|apply EqOf.ne|apply Ev.conv|apply Ev.buildN);exact rfl)|((first|apply Ev.shr|apply Ev.shl);(iterate 2 exact rfl);first|decide|omega));·exact rfl)|(apply yn;iterate 4 exact rfl)|apply QL.nil)
    show DW _ _ _ _ _ _ _ _
    apply DW.loud 13
    · exact rfl
    · decide +kernel
    apply LR.call
    · exact rfl
    intro w1 h1
    refine CallsTo.mono (show CallsTo Try.prog 57 [d.msg.val a c] w1 _ from c57 d.msg a c w1 (h1.rd_of (by (repeat (first | exact mH _ _ | apply mT)))) hz hck) ?_
    rintro v w2 ⟨a2, c2, rfl, hn⟩
    refine LR.back (h1.newSl hn) ?_
    clear hn h1
    repeat'(first|(apply kp;iterate 2 exact rfl)|apply jJ|(apply jE;exact rfl)|(apply jp;exact rfl)|(apply jc;kernel_rfl)|((first|apply kf|apply kn|apply ke|apply kx|apply kc|apply kb);iterate 2 exact rfl)|((first|apply kz|apply ky);(·exact rfl);(·repeat(first|exact iO|exact iR rfl|apply iT));iterate 2 exact rfl)|(apply kg;iterate 2 exact rfl)|(apply kG;iterate 3 exact rfl)|(apply kB;(iterate 2 exact rfl);intro _)|(apply kA;exact rfl;intro _)|(apply kK;(iterate 4 exact rfl);intro _)|(apply kU;(iterate 2 exact rfl);(·repeat(first|exact sH _ _ _|apply sT));(first|exact nfL_eq rfl|exact rfl);exact rfl)|((first|apply kh|apply kl);(iterate 2 exact rfl);(first|decide|omega);exact rfl)|((first|(apply kR;iterate 2 exact rfl)|(apply kQ;exact rfl));all_goals(intro hc;try simp only[hcs]at hc;try(exfalso;first|contradiction|omega))))
    refine At.stage_same (fun _ h => St.sub h (by repeat (first | exact List.Sublist.refl _ | apply List.Sublist.cons))) ?_
    apply DW.quiet [14]
    · decide +kernel
    · first | exact fun _ h => h | exact fun _ h => St.sub h (by repeat (first | exact List.Sublist.refl _ | apply List.Sublist.cons))
    repeat'(first|(apply yp;iterate 3 exact rfl)|(apply QL.ev;(·exact rfl);(·first|((first|apply Ez|apply Ey);(·exact rfl);(·repeat(first|exact iO|exact iR rfl|apply iT));exact rfl)|((first|apply Ev.fieldAddr|apply Ev.len|apply EqOf.eq|apply EqOf.ne|apply Ev.conv|apply Ev.buildN);exact rfl)|((first|apply Ev.shr|apply Ev.shl);(iterate 2 exact rfl);first|decide|omega));·exact rfl)|(apply yq;iterate 5 exact rfl)|(apply QL.evg;(iterate 3 exact rfl);(·first|((first|apply Ez|apply Ey);(·exact rfl);(·repeat(first|exact iO|exact iR rfl|apply iT));exact rfl)|((first|apply Ev.fieldAddr|apply Ev.len|apply EqOf.eq|apply EqOf.ne|apply Ev.conv|apply Ev.buildN);exact rfl)|((first|apply Ev.shr|apply Ev.shl);(iterate 2 exact rfl);first|decide|omega));·exact rfl)|(apply yn;iterate 4 exact rfl)|apply QL.nil)
    show DW _ _ _ _ _ _ _ _
    apply DW.loud 15
    · exact rfl
    · decide +kernel
    repeat'(first|(apply kg;iterate 2 exact rfl)|(apply kG;iterate 3 exact rfl)|apply kM|(apply kp;iterate 2 exact rfl)|((first|apply kz|apply ky);(·exact rfl);(·repeat(first|exact iO|exact iR rfl|apply iT));iterate 2 exact rfl)|(apply kK;(iterate 4 exact rfl);intro _)|(apply kU;(iterate 2 exact rfl);(·repeat(first|exact sH _ _ _|apply sT));(first|exact nfL_eq rfl|exact rfl);exact rfl)|(apply kB;(iterate 2 exact rfl);intro _)|(apply kA;exact rfl;intro _))
    refine At.stage_same (fun _ h => St.sub h (by repeat (first | exact List.Sublist.refl _ | apply List.Sublist.cons))) ?_
    apply DW.quiet [16]
    · decide +kernel
    · first | exact fun _ h => h | exact fun _ h => St.sub h (by repeat (first | exact List.Sublist.refl _ | apply List.Sublist.cons))
    repeat'(first|(apply yp;iterate 3 exact rfl)|(apply QL.ev;(·exact rfl);(·first|((first|apply Ez|apply Ey);(·exact rfl);(·repeat(first|exact iO|exact iR rfl|apply iT));exact rfl)|((first|apply Ev.fieldAddr|apply Ev.len|apply EqOf.eq|apply EqOf.ne|apply Ev.conv|apply Ev.buildN);exact rfl)|((first|apply Ev.shr|apply Ev.shl);(iterate 2 exact rfl);first|decide|omega));·exact rfl)|(apply yq;iterate 5 exact rfl)|(apply QL.evg;(iterate 3 exact rfl);(·first|((first|apply Ez|apply Ey);(·exact rfl);(·repeat(first|exact iO|exact iR rfl|apply iT));exact rfl)|((first|apply Ev.fieldAddr|apply Ev.len|apply EqOf.eq|apply EqOf.ne|apply Ev.conv|apply Ev.buildN);exact rfl)|((first|apply Ev.shr|apply Ev.shl);(iterate 2 exact rfl);first|decide|omega));·exact rfl)|(apply yn;iterate 4 exact rfl)|apply QL.nil)
    show DW _ _ _ _ _ _ _ _
    apply DW.done_thn
    · kernel_rfl
    repeat'(first|(apply kp;iterate 2 exact rfl)|apply jJ|(apply jE;exact rfl)|(apply jp;exact rfl)|(apply jc;kernel_rfl)|((first|apply kf|apply kn|apply ke|apply kx|apply kc|apply kb);iterate 2 exact rfl)|((first|apply kz|apply ky);(·exact rfl);(·repeat(first|exact iO|exact iR rfl|apply iT));iterate 2 exact rfl)|(apply kg;iterate 2 exact rfl)|(apply kG;iterate 3 exact rfl)|(apply kB;(iterate 2 exact rfl);intro _)|(apply kA;exact rfl;intro _)|(apply kK;(iterate 4 exact rfl);intro _)|(apply kU;(iterate 2 exact rfl);(·repeat(first|exact sH _ _ _|apply sT));(first|exact nfL_eq rfl|exact rfl);exact rfl)|((first|apply kh|apply kl);(iterate 2 exact rfl);(first|decide|omega);exact rfl)|((first|(apply kR;iterate 2 exact rfl)|(apply kQ;exact rfl));all_goals(intro hc;try simp only[hcs]at hc;try(exfalso;first|contradiction|omega))))
    (apply ret2c; (· exact rfl); (· exact inferInstance); (· exact rfl); (· (repeat (first | exact List.Mem.head _ | apply List.Mem.tail))); (· exact rfl); intro w' hS)
    rw [e]
    exact ⟨a2, c2, rfl, hS.toNew (by (repeat (first | exact mH _ _ | apply mT)))⟩
  all_goals (
    have e : old d = (zeroMsg, 2) := by clear nils; unfold old; rw [if_neg (by simp_all [mayOld, withinB_iff, numB_iff] <;> (intros; omega))]
    (apply ret2c; (· exact rfl); (· exact inferInstance); (· exact rfl); (· (repeat (first | exact List.Mem.head _ | apply List.Mem.tail))); (· exact rfl); intro w' hS)
    rw [e]
    exact ⟨none, 0, rfl, nils w' hS.toKeep⟩)

set_option maxHeartbeats 4000000 in
theorem c83 (m : Msg) (a : Option Addr) (c : Nat) (w : World) (hr : Rd w a (bv m.body)) (hz : a = none → c = 0) (hm : m.body.length ≤ 140737488355328) (hb : Byt m.body) :
    CallsTo Try.prog 83 [m.val a c] w fun v w' => ∃ a2 c2, v = .tuple [(inner m).1.val a2 c2, .int .i64 (inner m).2].toArray ∧ NewSl w w' (.slice a2 (inner m).1.msg.body.length c2) 5 1 (inner m).1.msg.body.length (bv (inner m).1.msg.body) := by
  refine go_in (n := 34) (St.rd1 hr) Try.func83 rfl rfl ?_
  have nils : ∀ w', Grew w w' → NewSl w w' (.slice none 0 0) 5 1 0 (bv []) := fun w' hg => ⟨hg, World.ownsRow_nil _ _ _ _⟩
  repeat'(first|(apply kp;iterate 2 exact rfl)|apply jJ|(apply jE;exact rfl)|(apply jp;exact rfl)|(apply jc;kernel_rfl)|((first|apply kf|apply kn|apply ke|apply kx|apply kc|apply kb);iterate 2 exact rfl)|((first|apply kz|apply ky);(·exact rfl);(·repeat(first|exact iO|exact iR rfl|apply iT));iterate 2 exact rfl)|(apply kg;iterate 2 exact rfl)|(apply kG;iterate 3 exact rfl)|(apply kB;(iterate 2 exact rfl);intro _)|(apply kA;exact rfl;intro _)|(apply kK;(iterate 4 exact rfl);intro _)|(apply kU;(iterate 2 exact rfl);(·repeat(first|exact sH _ _ _|apply sT));(first|exact nfL_eq rfl|exact rfl);exact rfl)|((first|apply kh|apply kl);(iterate 2 exact rfl);(first|decide|omega);exact rfl)|(apply kq; (· exact rfl); (· intro w1 h1; have hq := CallsTo.q (d18 m a c w1 (h1.rd_of (by (repeat (first | exact mH _ _ | apply mT)))) hz hm hb) h1; show CallsTo Try.prog 18 [m.val a c] w1 _; exact hq))|((first|(apply kR;iterate 2 exact rfl)|(apply kQ;exact rfl));all_goals(intro hc;try simp only[hcs]at hc;try(exfalso;first|contradiction|omega))))
  rotate_right
  · rename check m = 0 => hck
    rename m.kind = 5 => hk
    have e : inner m = (innerD m, 0) := by unfold inner; rw [if_pos ⟨hck, hk⟩]
    apply LR.call
    · exact rfl
    intro w1 h1
    refine (d24 a c m.body w1 (h1.rd_of (by (repeat (first | exact mH _ _ | apply mT)))) hz hm hb).mono ?_
    rintro v w2 ⟨a1, c1, rfl, hn⟩
    refine LR.back (h1.newSl hn) ?_
    clear hn h1
    repeat'(first|(apply kp;iterate 2 exact rfl)|apply jJ|(apply jE;exact rfl)|(apply jp;exact rfl)|(apply jc;kernel_rfl)|((first|apply kf|apply kn|apply ke|apply kx|apply kc|apply kb);iterate 2 exact rfl)|((first|apply kz|apply ky);(·exact rfl);(·repeat(first|exact iO|exact iR rfl|apply iT));iterate 2 exact rfl)|(apply kg;iterate 2 exact rfl)|(apply kG;iterate 3 exact rfl)|(apply kB;(iterate 2 exact rfl);intro _)|(apply kA;exact rfl;intro _)|(apply kK;(iterate 4 exact rfl);intro _)|(apply kU;(iterate 2 exact rfl);(·repeat(first|exact sH _ _ _|apply sT));(first|exact nfL_eq rfl|exact rfl);exact rfl)|((first|apply kh|apply kl);(iterate 2 exact rfl);(first|decide|omega);exact rfl)|((first|(apply kR;iterate 2 exact rfl)|(apply kQ;exact rfl));all_goals(intro hc;try simp only[hcs]at hc;try(exfalso;first|contradiction|omega))))
    (apply ret2c; (· exact rfl); (· exact inferInstance); (· exact rfl); (· (repeat (first | exact List.Mem.head _ | apply List.Mem.tail))); (· exact rfl); intro w' hS)
    rw [e]
    exact ⟨a1, c1, rfl, hS.toNew (by (repeat (first | exact mH _ _ | apply mT)))⟩
  all_goals (
    (apply ret2c; (· exact rfl); (· exact inferInstance); (· exact rfl); (· (repeat (first | exact List.Mem.head _ | apply List.Mem.tail))); (· exact rfl); intro w' hS)
    have e : inner m = (zeroDat, 2) := by unfold inner; rw [if_neg (by simp_all)]
    rw [e]
    exact ⟨none, 0, rfl, nils w' hS.toKeep⟩)

def sameD (x y : Dat) : Bool := decide ([x.rseq, x.rrep] = [y.rseq, y.rrep] ∧ x.seq = y.seq ∧ x.sender = y.sender ∧ x.stamp = y.stamp ∧ sameB x.msg y.msg = true)
theorem sameD_self (x : Dat) : sameD x x = true := by simp [sameD, sameB_self]
set_option maxHeartbeats 2000000 in
theorem c84 (x y : Dat) (a b : Option Addr) (c d : Nat) (w : World) (hx : Rd w a (bv x.msg.body)) (hy : Rd w b (bv y.msg.body)) (hm : x.msg.body.length ≤ 140737488355328) :
    CallsTo Try.prog 84 [x.val a c, y.val b d] w fun v w' => v = .bool (sameD x y) ∧ Grew w w' := by
  refine go_in (n := 38) (St.rd2 hx hy) Try.func84 rfl rfl ?_
  repeat'(first|(apply kp;iterate 2 exact rfl)|apply jJ|(apply jE;exact rfl)|(apply jp;exact rfl)|(apply jc;kernel_rfl)|((first|apply kf|apply kn|apply ke|apply kx|apply kc|apply kb);iterate 2 exact rfl)|((first|apply kz|apply ky);(·exact rfl);(·repeat(first|exact iO|exact iR rfl|apply iT));iterate 2 exact rfl)|(apply kg;iterate 2 exact rfl)|(apply kG;iterate 3 exact rfl)|(apply kB;(iterate 2 exact rfl);intro _)|(apply kA;exact rfl;intro _)|(apply kK;(iterate 4 exact rfl);intro _)|(apply kU;(iterate 2 exact rfl);(·repeat(first|exact sH _ _ _|apply sT));(first|exact nfL_eq rfl|exact rfl);exact rfl)|((first|apply kh|apply kl);(iterate 2 exact rfl);(first|decide|omega);exact rfl)|(apply kq; (· exact rfl); (· intro w1 h1; have hq := CallsTo.q (c20 x.msg y.msg a b c d w1 (h1.rd_of (by (repeat (first | exact mH _ _ | apply mT)))) (h1.rd_of (by (repeat (first | exact mH _ _ | apply mT)))) (by omega)) h1; show CallsTo Try.prog 20 [x.msg.val a c, y.msg.val b d] w1 _; exact hq))|((first|(apply kR;iterate 2 exact rfl)|(apply kQ;exact rfl));all_goals(intro hc;try simp only[hcs]at hc;try(exfalso;first|contradiction|omega))))
  all_goals (
    (apply ret1; (· exact rfl); intro w' hS)
    refine ⟨congrArg Value.bool ?_, hS.toKeep⟩
    unfold sameD
    simp_all)
end Go.Proofs.Ytomlgnncncjmaaa

namespace Go.Proofs.Ytomlgnncncjmaaa
open Go.Hb Go.ChangeShapes Go.WideShapes
attribute [local irreducible] LR CW At Ev thn blk finK noG again CallsTo DW QL dnext TW
set_option linter.unusedSimpArgs false
set_option linter.unusedVariables false
set_option maxRecDepth 100000

theorem c31w (i n : Int) (w : World) (hn : n ≤ 9223372036854775807) : CallsTo Try.prog 31 [.int .i64 i, .int .i64 n] w fun v w' => v = .int .i64 (bring i n) ∧ w' = w := by
  refine go_eq (n := 16) Try.func31 rfl rfl ?_
  by_cases h : n ≤ 0
  · repeat'(first|(apply kp;iterate 2 exact rfl)|apply jJ|(apply jE;exact rfl)|(apply jp;exact rfl)|(apply jc;kernel_rfl)|((first|apply kf|apply kn|apply ke|apply kx|apply kc|apply kb);iterate 2 exact rfl)|((first|apply kz|apply ky);(·exact rfl);(·repeat(first|exact iO|exact iR rfl|apply iT));iterate 2 exact rfl)|(apply kg;iterate 2 exact rfl)|(apply kG;iterate 3 exact rfl)|(apply kB;(iterate 2 exact rfl);intro _)|(apply kA;exact rfl;intro _)|(apply kK;(iterate 4 exact rfl);intro _)|(apply kU;(iterate 2 exact rfl);(·repeat(first|exact sH _ _ _|apply sT));(first|exact nfL_eq rfl|exact rfl);exact rfl)|((first|apply kh|apply kl);(iterate 2 exact rfl);(first|decide|omega);exact rfl)|((first|(apply kR;iterate 2 exact rfl)|(apply kQ;exact rfl));all_goals(intro hc;try simp only[hcs]at hc;try(exfalso;first|contradiction|omega))))
    (apply ret1; (· exact rfl); intro w' hS)
    exact ⟨congrArg (Value.int .i64) (by unfold bring; rw [if_pos h]), hS⟩
  · have hb := tmod_bd i n (by omega)
    repeat'(first|(apply kp;iterate 2 exact rfl)|apply jJ|(apply jE;exact rfl)|(apply jp;exact rfl)|(apply jc;kernel_rfl)|((first|apply kf|apply kn|apply ke|apply kx|apply kc|apply kb);iterate 2 exact rfl)|((first|apply kz|apply ky);(·exact rfl);(·repeat(first|exact iO|exact iR rfl|apply iT));iterate 2 exact rfl)|(apply kg;iterate 2 exact rfl)|(apply kG;iterate 3 exact rfl)|(apply kB;(iterate 2 exact rfl);intro _)|(apply kA;exact rfl;intro _)|(apply kK;(iterate 4 exact rfl);intro _)|(apply kU;(iterate 2 exact rfl);(·repeat(first|exact sH _ _ _|apply sT));(first|exact nfL_eq rfl|exact rfl);exact rfl)|((first|apply kh|apply kl);(iterate 2 exact rfl);(first|decide|omega);exact rfl)|(apply LR.ev; (· apply Ev.rem; (· exact rfl); (· exact rfl); (· first | decide | omega)); (· exact rfl))|(apply addX;(iterate 2 exact rfl);(iterate 2(first|omega|(dsimp only;omega)));exact rfl)|((first|(apply kR;iterate 2 exact rfl)|(apply kQ;exact rfl));all_goals(intro hc;try simp only[hcs]at hc;try(exfalso;first|contradiction|omega))))
    all_goals (
      (apply ret1; (· exact rfl); intro w' hS)
      refine ⟨congrArg (Value.int .i64) ?_, hS⟩
      unfold bring; rw [if_neg h]
      first | rw [if_pos (by omega)] | rw [if_neg (by omega)])

/-- How many bytes a number has. -/
theorem encF_lenle : ∀ (k m y : Nat), y < 128 ^ (k + 1) → (encF m y).length ≤ k + 1
  | k, 0, y, _ => by simp [encF]
  | 0, m + 1, y, h => by rw [encF_small _ _ (by omega)]; simp
  | k + 1, m + 1, y, h => by
    rw [encF]
    split
    · simp
    · have := encF_lenle k m (y / 128) (by rw [Nat.pow_succ] at h; omega)
      simp; omega
theorem enc_len1 {x : Nat} (h : x < 128) : (enc x).length ≤ 1 := encF_lenle 0 8 x (by omega)
theorem enc_len2 {x : Nat} (h : x < 16384) : (enc x).length ≤ 2 := encF_lenle 1 8 x (by omega)
theorem enc_len8 {x : Nat} (h : x ≤ 9007199254740991) : (enc x).length ≤ 8 := by
  have h8 : (128 : Nat) ^ 8 = 72057594037927936 := by decide
  exact encF_lenle 7 8 x (by omega)
theorem plcs_room {ps : List Plc} (h : ∀ p ∈ ps, plcB p = true) : (ps.flatMap fun p => encs (plcNums p)).length ≤ 12 * ps.length := by
  induction ps with
  | nil => simp
  | cons p r ih =>
    have ih := ih fun q hq => h q (List.mem_cons_of_mem _ hq)
    have hp := h p List.mem_cons_self
    unfold plcB at hp
    simp only [decide_eq_true_eq] at hp
    have e1 : (enc p.ring.toNat).length ≤ 1 := enc_len1 (by omega)
    have e2 : (enc p.seq.toNat).length ≤ 8 := enc_len8 (by omega)
    have e3 : (enc p.rep.toNat).length ≤ 1 := enc_len1 (by omega)
    have e4 : (enc p.members.toNat).length ≤ 2 := enc_len2 (by omega)
    simp only [List.flatMap_cons, List.length_append, encs, plcNums, List.flatMap_nil, List.append_nil, List.length_cons] at ih ⊢
    omega
theorem room {m : Msg} (hb : Byt m.body) (h : check m = 0) (hk : m.kind ≠ 5) : (bytesM m).length ≤ 160 := by
  obtain ⟨h1, h2⟩ := check_ok h
  have hok := msgNums_ok h
  unfold mayB at h2
  simp only [withinB_iff, Bool.and_eq_true, decide_eq_true_eq] at h2
  obtain ⟨⟨⟨⟨⟨⟨h3, h4⟩, h5⟩, h6⟩, h7⟩, h8⟩, h9⟩ := h2
  have hkey : ringB m.rseq m.rrep = true := by
    unfold keyE keyB at h8
    split at h8
    · rename_i hh; simp only [Bool.and_eq_true] at hh; exact hh.2
    · cases h8
  have hrep : 0 ≤ m.rrep ∧ m.rrep ≤ 8 := by unfold ringB at hkey; rw [numB_iff] at hkey; simp at hkey; omega
  have hparts : 0 ≤ m.part ∧ m.part ≤ 5 ∧ 0 ≤ m.parts ∧ m.parts ≤ 5 ∧ m.body.length ≤ 49 := by
    have pl : plainB m = true → m.part = 0 ∧ m.parts = 0 := fun h => by unfold plainB at h; simp at h; omega
    unfold kindB at h9
    repeat' split at h9
    · unfold textB at h9; simp at h9; omega
    · unfold emptyB at h9; simp only [Bool.and_eq_true, decide_eq_true_eq] at h9; have := pl h9.1; omega
    · unfold wantB emptyB at h9; simp only [Bool.and_eq_true, decide_eq_true_eq] at h9; have := pl h9.1.1; omega
    · unfold chartB at h9; simp only [Bool.and_eq_true, decide_eq_true_eq] at h9
      have := pl h9.1.1
      have hc := places_canon hb h9.2
      have h0 : (charts (places m.body).1).2 = 0 := by rw [hc]
      obtain ⟨c1, c2, c3⟩ := charts_ok h0
      rw [hc] at c3
      have hl : m.body = plcsBytes (places m.body).1 := congrArg Prod.fst c3
      have hr := plcs_room c2
      have he : (enc (places m.body).1.length).length ≤ 1 := enc_len1 (by omega)
      have : m.body.length = (enc (places m.body).1.length).length + ((places m.body).1.flatMap fun p => encs (plcNums p)).length := by
        conv => lhs; rw [hl]
        simp [plcsBytes]
      omega
    · cases h9
  have n0 := hok m.kind (by simp [msgNums])
  have okl : ∀ x ∈ msgNums m, (enc x.toNat).length ≤ 8 := fun x hx => enc_len8 (by have := hok x hx; unfold okN at this; omega)
  have e0 : (enc m.kind.toNat).length ≤ 1 := enc_len1 (by omega)
  have e1 : (enc m.origin.toNat).length ≤ 1 := enc_len1 (by omega)
  have e2 := okl m.life (by simp [msgNums])
  have e3 := okl m.id (by simp [msgNums])
  have e4 : (enc m.part.toNat).length ≤ 1 := enc_len1 (by omega)
  have e5 : (enc m.parts.toNat).length ≤ 1 := enc_len1 (by omega)
  have e6 : (enc m.groups.toNat).length ≤ 2 := enc_len2 (by omega)
  have e7 : (enc (b2i m.safe).toNat).length ≤ 1 := enc_len1 (by unfold b2i; split <;> simp)
  have e8 := okl m.stamp (by simp [msgNums])
  have e9 := okl m.rseq (by simp [msgNums])
  have e10 : (enc m.rrep.toNat).length ≤ 1 := enc_len1 (by omega)
  have e11 := okl m.kseq (by simp [msgNums])
  have e12 : (enc m.body.length).length ≤ 1 := enc_len1 (by omega)
  simp only [bytesM, encs, msgNums, List.flatMap_cons, List.flatMap_nil, List.append_nil, List.length_append]
  omega
theorem check_oldM {d : Dat} (hm : mayOld d = true) (hb : Byt d.msg.body) (hc : check d.msg = 0) (hk : d.msg.kind ≠ 5) : check (oldM d) = 0 := by
  unfold mayOld at hm
  simp only [decide_eq_true_eq] at hm
  obtain ⟨m1, m2, m3, m4, m5, m6, m7, m8⟩ := hm
  have hr := room hb hc hk
  have hu := unpack_bytes hc
  have hring : ringB d.rseq d.rrep = true := by unfold ringE at m2; split at m2; (· assumption); (· cases m2)
  unfold check checkM
  rw [if_neg (by show ¬ 160 < (bytesM d.msg).length; omega)]
  rw [if_pos ?_]
  unfold mayB
  simp only [withinB_iff, Bool.and_eq_true, decide_eq_true_eq]
  refine ⟨⟨⟨⟨⟨⟨by simp [oldM], by simp [oldM]; omega⟩, by simp [oldM]⟩, by simp [oldM]; omega⟩, by simp [oldM]⟩, ?_⟩, ?_⟩
  · unfold keyE keyB
    rw [if_pos]
    simp only [oldM, numB_iff, hring, Bool.and_true, Bool.and_eq_true, decide_eq_true_eq]
    omega
  · unfold kindB oldB plainB
    simp only [oldM, hu]
    simp [hk]
    refine ⟨by omega, by omega, ?_, by omega⟩
    omega
end Go.Proofs.Ytomlgnncncjmaaa

namespace Go.Proofs.Ytomlgnncncjmaaa
open Go.Hb Go.ChangeShapes Go.WideShapes
attribute [local irreducible] LR CW At Ev thn blk finK noG again CallsTo DW QL dnext TW
set_option linter.unusedSimpArgs false
set_option linter.unusedVariables false
set_option maxRecDepth 100000

def broughtD (d : Dat) : Dat := ⟨1 + bring d.rseq 9007199254740991, 1 + bring d.rrep 8, 1 + bring d.seq 9007199254740991, 1 + bring d.sender 8, bring d.stamp 9007199254740992, d.msg⟩
theorem brought_may (d : Dat) : mayOld (broughtD d) = true := by
  have h1 := bring_bd d.rseq 9007199254740991 (by omega)
  have h2 := bring_bd d.rrep 8 (by omega)
  have h3 := bring_bd d.seq 9007199254740991 (by omega)
  have h4 := bring_bd d.sender 8 (by omega)
  have h5 := bring_bd d.stamp 9007199254740992 (by omega)
  unfold mayOld broughtD
  simp only [decide_eq_true_eq, ringE_zero]
  omega

theorem inner_old {d : Dat} (hm : mayOld d = true) (hb : Byt d.msg.body) (hc : check d.msg = 0) (hk : d.msg.kind ≠ 5) : inner (oldM d) = (d, 0) := by
  have h := check_oldM hm hb hc hk
  have hu := unpack_bytes hc
  unfold inner
  rw [if_pos ⟨h, rfl⟩]
  unfold innerD
  show ((⟨d.rseq, d.rrep, d.seq, d.sender, d.stamp, (unpack (bytesM d.msg)).1⟩ : Dat), (0 : Int)) = (d, 0)
  rw [hu]

set_option maxHeartbeats 8000000 in
theorem c8 (d : Dat) (a : Option Addr) (c : Nat) (w : World) (hr : Rd w a (bv d.msg.body)) (hz : a = none → c = 0) (hm : d.msg.body.length ≤ 140737488355328) (hb : Byt d.msg.body) :
    CallsTo Try.prog 8 [d.val a c] w fun v w' => v = .bool true ∧ Grew w w' := by
  have k1 := bring_bd d.rseq 9007199254740991 (by omega)
  have k2 := bring_bd d.rrep 8 (by omega)
  have k3 := bring_bd d.seq 9007199254740991 (by omega)
  have k4 := bring_bd d.sender 8 (by omega)
  have k5 := bring_bd d.stamp 9007199254740992 (by omega)
  have hmay := brought_may d
  refine go_in (n := 144) (St.rd1 hr) Try.func8 rfl rfl ?_
  repeat'(first|(apply CW.reg_tail 12; decide +kernel)|(apply kp;iterate 2 exact rfl)|apply jJ|(apply jE;exact rfl)|(apply jp;exact rfl)|(apply jc;kernel_rfl)|((first|apply kf|apply kn|apply ke|apply kx|apply kc|apply kb);iterate 2 exact rfl)|((first|apply kz|apply ky);(·exact rfl);(·repeat(first|exact iO|exact iR rfl|apply iT));iterate 2 exact rfl)|(apply kg;iterate 2 exact rfl)|(apply kG;iterate 3 exact rfl)|(apply kB;(iterate 2 exact rfl);intro _)|(apply kA;exact rfl;intro _)|(apply kK;(iterate 4 exact rfl);intro _)|(apply kU;(iterate 2 exact rfl);(·repeat(first|exact sH _ _ _|apply sT));(first|exact nfL_eq rfl|exact rfl);exact rfl)|((first|apply kh|apply kl);(iterate 2 exact rfl);(first|decide|omega);exact rfl)|(apply kq;(·exact rfl);(·intro w1 h1;exact CallsTo.q (c21 w1) h1))|((first|(apply kR;iterate 2 exact rfl)|(apply kQ;exact rfl));all_goals(intro hc;try simp only[hcs]at hc;try(exfalso;first|contradiction|omega))))
  repeat'(first|(apply TW.ev;(·exact evV_sound rfl);exact rfl)|(apply TW.ev;(·first|((first|apply Ez|apply Ey);(·exact rfl);(·repeat(first|exact iO|exact iR rfl|apply iT));exact rfl)|((first|apply Ev.fieldAddr|apply Ev.len|apply EqOf.eq|apply EqOf.ne|apply Ev.conv|apply Ev.buildN);exact rfl)|((first|apply Ev.shr|apply Ev.shl);(iterate 2 exact rfl);first|decide|omega));·exact rfl)|(apply TW.call; (· exact rfl); (· intro w1 h1; exact c31w _ _ w1 (by omega)))|(apply TW.ev; (· apply Ev.add; (· exact rfl); (· exact rfl); (· first | omega | (dsimp only; omega)); (· first | omega | (dsimp only; omega))); (· exact rfl))|(apply TW.yes;iterate 2 exact rfl)|(apply TW.no;iterate 3 exact rfl)|apply TW.nil)
  repeat'(first|(apply kp;iterate 2 exact rfl)|apply jJ|(apply jE;exact rfl)|(apply jp;exact rfl)|(apply jc;kernel_rfl)|((first|apply kf|apply kn|apply ke|apply kx|apply kc|apply kb);iterate 2 exact rfl)|((first|apply kz|apply ky);(·exact rfl);(·repeat(first|exact iO|exact iR rfl|apply iT));iterate 2 exact rfl)|(apply kg;iterate 2 exact rfl)|(apply kG;iterate 3 exact rfl)|(apply kB;(iterate 2 exact rfl);intro _)|(apply kA;exact rfl;intro _)|(apply kK;(iterate 4 exact rfl);intro _)|(apply kU;(iterate 2 exact rfl);(·repeat(first|exact sH _ _ _|apply sT));(first|exact nfL_eq rfl|exact rfl);exact rfl)|((first|apply kh|apply kl);(iterate 2 exact rfl);(first|decide|omega);exact rfl)|(apply kq; (· exact rfl); (· intro w1 h1; exact CallsTo.q (c31 _ _ w1 (by omega)) h1))|(apply addX;(iterate 2 exact rfl);(iterate 2(first|omega|(dsimp only;omega)));exact rfl)|((first|(apply kR;iterate 2 exact rfl)|(apply kQ;exact rfl));all_goals(intro hc;try simp only[hcs]at hc;try(exfalso;first|contradiction|omega))))
  rename_i b1
  have hbb : (broughtD d).msg = d.msg := rfl
  apply LR.call
  · exact rfl
  intro w1 h1
  refine CallsTo.mono (show CallsTo Try.prog 32 [(broughtD d).val a c] w1 _ from c32 (broughtD d) a c w1 (h1.rd_of (by (repeat (first | exact mH _ _ | apply mT)))) hz hm hb) ?_
  by_cases hg : check d.msg = 0 ∧ d.msg.kind ≠ 5
  · obtain ⟨hck, hk⟩ := hg
    have eo : old (broughtD d) = (oldM (broughtD d), 0) := by unfold old; rw [if_pos ⟨hmay, hck, hk⟩]
    have hco := check_oldM hmay hb hck hk
    have hio := inner_old hmay hb hck hk
    have hpo : pack (oldM (broughtD d)) = (bytesM (oldM (broughtD d)), 0) := by unfold pack; rw [if_neg (by simpa using hco)]
    have huo := unpack_bytes hco
    have hbo : Byt (oldM (broughtD d)).body := hb.bytes hck
    have hlo : (oldM (broughtD d)).body.length ≤ 160 := (check_ok hco).1
    have hlb := bytesM_len (oldM (broughtD d))
    have eo2 : old ⟨(broughtD d).rseq, (broughtD d).rrep, 1, 1, 0, oldM (broughtD d)⟩ = (zeroMsg, 2) := by unfold old; rw [if_neg (by simp [oldM])]
    rw [eo]
    rintro v w2 ⟨a1, c1, rfl, hn⟩
    refine LR.back (h1.newSl hn) ?_
    clear hn h1
    repeat'(first|(apply kp;iterate 2 exact rfl)|apply jJ|(apply jE;exact rfl)|(apply jp;exact rfl)|(apply jc;kernel_rfl)|((first|apply kf|apply kn|apply ke|apply kx|apply kc|apply kb);iterate 2 exact rfl)|((first|apply kz|apply ky);(·exact rfl);(·repeat(first|exact iO|exact iR rfl|apply iT));iterate 2 exact rfl)|(apply kg;iterate 2 exact rfl)|(apply kG;iterate 3 exact rfl)|(apply kB;(iterate 2 exact rfl);intro _)|(apply kA;exact rfl;intro _)|(apply kK;(iterate 4 exact rfl);intro _)|(apply kU;(iterate 2 exact rfl);(·repeat(first|exact sH _ _ _|apply sT));(first|exact nfL_eq rfl|exact rfl);exact rfl)|((first|apply kh|apply kl);(iterate 2 exact rfl);(first|decide|omega);exact rfl)|(apply kq; (· exact rfl); (· intro w1 h1; have hq := CallsTo.q (d17 d.msg a c w1 (h1.rd_of (by (repeat (first | exact mH _ _ | apply mT)))) hz hm hb) h1; rw [hck] at hq; show CallsTo Try.prog 17 [d.msg.val a c] w1 _; exact hq))|((first|(apply kR;iterate 2 exact rfl)|(apply kQ;exact rfl));all_goals(intro hc;try simp only[hcs]at hc;try(exfalso;first|contradiction|omega))))
    rename_i b2
    apply LR.call
    · exact rfl
    intro w1 h1
    refine CallsTo.mono (show CallsTo Try.prog 33 [(oldM (broughtD d)).val a1 c1] w1 _ from c33 (oldM (broughtD d)) a1 c1 w1 (h1.rd_of_own (mT _ (mH _ _))) (fun e => (ownsRow_some h1.g1 e).2) (by omega) hbo) ?_
    rw [hio]
    rintro v w2 ⟨a2, c2, rfl, hn⟩
    refine LR.back (h1.newSl hn) ?_
    clear hn h1
    repeat'(first|(apply kp;iterate 2 exact rfl)|apply jJ|(apply jE;exact rfl)|(apply jp;exact rfl)|(apply jc;kernel_rfl)|((first|apply kf|apply kn|apply ke|apply kx|apply kc|apply kb);iterate 2 exact rfl)|((first|apply kz|apply ky);(·exact rfl);(·repeat(first|exact iO|exact iR rfl|apply iT));iterate 2 exact rfl)|(apply kg;iterate 2 exact rfl)|(apply kG;iterate 3 exact rfl)|(apply kB;(iterate 2 exact rfl);intro _)|(apply kA;exact rfl;intro _)|(apply kK;(iterate 4 exact rfl);intro _)|(apply kU;(iterate 2 exact rfl);(·repeat(first|exact sH _ _ _|apply sT));(first|exact nfL_eq rfl|exact rfl);exact rfl)|((first|apply kh|apply kl);(iterate 2 exact rfl);(first|decide|omega);exact rfl)|((first|(apply kR;iterate 2 exact rfl)|(apply kQ;exact rfl));all_goals(intro hc;try simp only[hcs]at hc;try(exfalso;first|contradiction|omega))))
    rename_i b3
    apply LR.call
    · exact rfl
    intro w1 h1
    refine CallsTo.mono (show CallsTo Try.prog 15 [(oldM (broughtD d)).val a1 c1] w1 _ from c15 (oldM (broughtD d)) a1 c1 w1 (h1.rd_of_own (by (repeat (first | exact mH _ _ | apply mT)))) (fun e => (ownsRow_some (h1.holds (osl (.slice a1 (oldM (broughtD d)).body.length c1) 5 1 (oldM (broughtD d)).body.length (bv (oldM (broughtD d)).body)) (by (repeat (first | exact mH _ _ | apply mT)))) e).2) (by omega) hbo) ?_
    rw [hpo]
    rintro v w2 ⟨a3, c3, rfl, hn⟩
    refine LR.back (h1.newSl hn) ?_
    clear hn h1
    repeat'(first|(apply kp;iterate 2 exact rfl)|apply jJ|(apply jE;exact rfl)|(apply jp;exact rfl)|(apply jc;kernel_rfl)|((first|apply kf|apply kn|apply ke|apply kx|apply kc|apply kb);iterate 2 exact rfl)|((first|apply kz|apply ky);(·exact rfl);(·repeat(first|exact iO|exact iR rfl|apply iT));iterate 2 exact rfl)|(apply kg;iterate 2 exact rfl)|(apply kG;iterate 3 exact rfl)|(apply kB;(iterate 2 exact rfl);intro _)|(apply kA;exact rfl;intro _)|(apply kK;(iterate 4 exact rfl);intro _)|(apply kU;(iterate 2 exact rfl);(·repeat(first|exact sH _ _ _|apply sT));(first|exact nfL_eq rfl|exact rfl);exact rfl)|((first|apply kh|apply kl);(iterate 2 exact rfl);(first|decide|omega);exact rfl)|((first|(apply kR;iterate 2 exact rfl)|(apply kQ;exact rfl));all_goals(intro hc;try simp only[hcs]at hc;try(exfalso;first|contradiction|omega))))
    apply LR.call
    · exact rfl
    intro w1 h1
    refine (d23 a3 c3 (bytesM (oldM (broughtD d))) w1 (h1.rd_of_own (mH _ _)) (fun e => (ownsRow_some h1.g0 e).2) (by omega) (hbo.bytes hco)).mono ?_
    rw [huo]
    rintro v w2 ⟨a4, c4, rfl, hn⟩
    refine LR.back (h1.newSl hn) ?_
    clear hn h1
    repeat'(first|(apply kp;iterate 2 exact rfl)|apply jJ|(apply jE;exact rfl)|(apply jp;exact rfl)|(apply jc;kernel_rfl)|((first|apply kf|apply kn|apply ke|apply kx|apply kc|apply kb);iterate 2 exact rfl)|((first|apply kz|apply ky);(·exact rfl);(·repeat(first|exact iO|exact iR rfl|apply iT));iterate 2 exact rfl)|(apply kg;iterate 2 exact rfl)|(apply kG;iterate 3 exact rfl)|(apply kB;(iterate 2 exact rfl);intro _)|(apply kA;exact rfl;intro _)|(apply kK;(iterate 4 exact rfl);intro _)|(apply kU;(iterate 2 exact rfl);(·repeat(first|exact sH _ _ _|apply sT));(first|exact nfL_eq rfl|exact rfl);exact rfl)|((first|apply kh|apply kl);(iterate 2 exact rfl);(first|decide|omega);exact rfl)|((first|(apply kR;iterate 2 exact rfl)|(apply kQ;exact rfl));all_goals(intro hc;try simp only[hcs]at hc;try(exfalso;first|contradiction|omega))))
    rename_i b4
    apply LR.call
    · exact rfl
    intro w1 h1
    refine CallsTo.mono (show CallsTo Try.prog 32 [(Dat.mk (broughtD d).rseq (broughtD d).rrep 1 1 0 (oldM (broughtD d))).val a1 c1] w1 _ from c32 ⟨(broughtD d).rseq, (broughtD d).rrep, 1, 1, 0, oldM (broughtD d)⟩ a1 c1 w1 (h1.rd_of_own (by (repeat (first | exact mH _ _ | apply mT)))) (fun e => (ownsRow_some (h1.holds (osl (.slice a1 (oldM (broughtD d)).body.length c1) 5 1 (oldM (broughtD d)).body.length (bv (oldM (broughtD d)).body)) (by (repeat (first | exact mH _ _ | apply mT)))) e).2) (by show (oldM (broughtD d)).body.length ≤ _; omega) hbo) ?_
    rw [eo2]
    rintro v w2 ⟨a5, c5, rfl, hn⟩
    refine LR.back (h1.newSl hn) ?_
    clear hn h1
    have q1 : (broughtD d).rseq = 1 + bring d.rseq 9007199254740991 := rfl
    have q2 : (broughtD d).rrep = 1 + bring d.rrep 8 := rfl
    have q3 : (broughtD d).seq = 1 + bring d.seq 9007199254740991 := rfl
    have q4 : (broughtD d).sender = 1 + bring d.sender 8 := rfl
    have q5 : (broughtD d).stamp = bring d.stamp 9007199254740992 := rfl
    repeat'(first|(apply kp;iterate 2 exact rfl)|apply jJ|(apply jE;exact rfl)|(apply jp;exact rfl)|(apply jc;kernel_rfl)|((first|apply kf|apply kn|apply ke|apply kx|apply kc|apply kb);iterate 2 exact rfl)|((first|apply kz|apply ky);(·exact rfl);(·repeat(first|exact iO|exact iR rfl|apply iT));iterate 2 exact rfl)|(apply kg;iterate 2 exact rfl)|(apply kG;iterate 3 exact rfl)|(apply kB;(iterate 2 exact rfl);intro _)|(apply kA;exact rfl;intro _)|(apply kK;(iterate 4 exact rfl);intro _)|(apply kU;(iterate 2 exact rfl);(·repeat(first|exact sH _ _ _|apply sT));(first|exact nfL_eq rfl|exact rfl);exact rfl)|((first|apply kh|apply kl);(iterate 2 exact rfl);(first|decide|omega);exact rfl)|(apply kq; (· exact rfl); (· intro w1 h1; first | (have hq := CallsTo.q (c30 (oldM (broughtD d)) (oldM (broughtD d)) a4 a1 c4 c1 w1 (h1.rd_of_own (by (repeat (first | exact mH _ _ | apply mT)))) (h1.rd_of_own (by (repeat (first | exact mH _ _ | apply mT)))) (by omega)) h1; rw [sameB_self] at hq; show CallsTo Try.prog 30 [(oldM (broughtD d)).val a4 c4, (oldM (broughtD d)).val a1 c1] w1 _; exact hq) | (have hq := CallsTo.q (c30 d.msg d.msg a2 a c2 c w1 (h1.rd_of_own (by (repeat (first | exact mH _ _ | apply mT)))) (h1.rd_of (by (repeat (first | exact mH _ _ | apply mT)))) hm) h1; rw [sameB_self] at hq; show CallsTo Try.prog 30 [d.msg.val a2 c2, d.msg.val a c] w1 _; exact hq)))|((first|(apply kR;iterate 2 exact rfl)|(apply kQ;exact rfl));all_goals(intro hc;try simp only[hcs]at hc;try(exfalso;first|contradiction|omega))))
    (apply ret1; (· exact rfl); intro w' hS)
    exact ⟨rfl, hS.toKeep⟩
  · have eo : old (broughtD d) = (zeroMsg, 2) := by unfold old; rw [if_neg (fun h => hg h.2)]
    rw [eo]
    rintro v w2 ⟨a1, c1, rfl, hn⟩
    refine LR.back (h1.newSl hn) ?_
    clear hn h1
    repeat'(first|(apply kp;iterate 2 exact rfl)|apply jJ|(apply jE;exact rfl)|(apply jp;exact rfl)|(apply jc;kernel_rfl)|((first|apply kf|apply kn|apply ke|apply kx|apply kc|apply kb);iterate 2 exact rfl)|((first|apply kz|apply ky);(·exact rfl);(·repeat(first|exact iO|exact iR rfl|apply iT));iterate 2 exact rfl)|(apply kg;iterate 2 exact rfl)|(apply kG;iterate 3 exact rfl)|(apply kB;(iterate 2 exact rfl);intro _)|(apply kA;exact rfl;intro _)|(apply kK;(iterate 4 exact rfl);intro _)|(apply kU;(iterate 2 exact rfl);(·repeat(first|exact sH _ _ _|apply sT));(first|exact nfL_eq rfl|exact rfl);exact rfl)|((first|apply kh|apply kl);(iterate 2 exact rfl);(first|decide|omega);exact rfl)|(apply kq; (· exact rfl); (· intro w1 h1; first | (have hq := CallsTo.q (d17 d.msg a c w1 (h1.rd_of (by (repeat (first | exact mH _ _ | apply mT)))) hz hm hb) h1; show CallsTo Try.prog 17 [d.msg.val a c] w1 _; exact hq) | (have hq := CallsTo.q (c30 zeroMsg zeroMsg a1 none c1 0 w1 (h1.rd_of_own (mT _ (mH _ _))) (Rd.nil _ _) (by simp [zeroMsg])) h1; rw [sameB_self] at hq; show CallsTo Try.prog 30 [zeroMsg.val a1 c1, zeroMsg.val none 0] w1 _; exact hq)))|((first|(apply kR;iterate 2 exact rfl)|(apply kQ;exact rfl));all_goals(intro hc;try simp only[hcs]at hc;try(exfalso;first|contradiction|omega))))
    all_goals (
      (apply ret1; (· exact rfl); intro w' hS)
      exact ⟨rfl, hS.toKeep⟩)

theorem opn_dat : Opn Try.prog 50 (fun w cs => ∃ (d : Dat) (a : Option Addr) (c : Nat), cs = d.cells a c ∧ Rd w a (bv d.msg.body) ∧ Byt d.msg.body ∧ (a = none → c = 0) ∧ d.msg.body.length ≤ 140737488351232 ∧ (MsgI d.msg ∧ i64 d.rseq ∧ i64 d.rrep ∧ i64 d.seq ∧ i64 d.sender ∧ i64 d.stamp)) := by
  refine (opn_struct Try.underlying50).mono fun w cs ⟨hl, h⟩ => ?_
  have hl : cs.length = 18 := hl
  match cs, hl with
  | y0 :: y1 :: y2 :: y3 :: y4 :: r, hl =>
    obtain ⟨x0, x1, h0, g0, g1⟩ := h 0 _ rfl _ opn_ring
    obtain ⟨x2, h2, g2⟩ := h 1 _ rfl _ opn_i64
    obtain ⟨x3, h3, g3⟩ := h 2 _ rfl _ opn_i64
    obtain ⟨x4, h4, g4⟩ := h 3 _ rfl _ opn_i64
    obtain ⟨m, a, c, h5, hr, hb, hz, hm, hi⟩ := h 4 _ rfl _ opn_msg
    have h0 : [y0, y1] = [Value.int .i64 x0, .int .i64 x1] := h0
    have h2 : [y2] = [Value.int .i64 x2] := h2
    have h3 : [y3] = [Value.int .i64 x3] := h3
    have h4 : [y4] = [Value.int .i64 x4] := h4
    have h5 : r.take 13 = m.cells a c := h5
    have h6 : r = m.cells a c := by rw [← h5, List.take_of_length_le]; simp at hl; omega
    simp only [List.cons.injEq, and_true] at h0 h2 h3 h4
    exact ⟨⟨x0, x1, x2, x3, x4, m⟩, a, c, by rw [h0.1, h0.2, h2, h3, h4, h6]; rfl, hr, hb, hz, hm, hi, g0, g1, g2, g3, g4⟩
end Go.Proofs.Ytomlgnncncjmaaa

namespace Go.Hb

/-! ### what is listed -/
theorem lst_foldl_comm (a : Array Bool) (i j : Nat) : (a.setIfInBounds i true).setIfInBounds j true = (a.setIfInBounds j true).setIfInBounds i true := by
  by_cases h : i = j
  · subst h; rfl
  · exact Array.setIfInBounds_comm _ _ h
theorem lst_perm {ops : List Oper} {l l' : List Nat} (h : l.Perm l') : lst ops l = lst ops l' := by
  unfold lst
  exact h.foldl_eq' (fun x _ y _ z => lst_foldl_comm z x y) _
theorem lst_getD {ops : List Oper} : ∀ {l : List Nat} {j : Nat} (d : Bool), j < ops.length → (lst ops l).getD j d = l.contains j := by
  intro l
  have gen : ∀ (l : List Nat) (a : Array Bool) (j : Nat) (d : Bool), j < a.size → (l.foldl (fun l i => l.setIfInBounds i true) a).getD j d = (l.contains j || a.getD j d) := by
    intro l
    induction l with
    | nil => intro a j d _; simp
    | cons x r ih =>
      intro a j d hj
      rw [List.foldl_cons, ih _ _ _ (by simpa using hj)]
      by_cases hx : x = j
      · subst hx; simp [hj]
      · have e : (a.setIfInBounds x true).getD j d = a.getD j d := by simp [Array.getElem?_setIfInBounds_ne hx]
        have e2 : (j == x) = false := by simpa using fun h => hx h.symm
        rw [e, List.contains_cons, e2, Bool.false_or]
  intro j d hj
  unfold lst
  rw [gen _ _ _ _ (by simpa using hj)]
  simp [hj]
theorem ready_more {ops : List Oper} {l : List Nat} {j : Nat} (h : j ∈ Region.ready .any ops.toArray (lst ops l)) : ∀ (l' : List Nat), (∀ x ∈ l', j ≠ x) → j ∈ Region.ready .any ops.toArray (lst ops (l ++ l')) := by
  intro l'
  induction l' generalizing l with
  | nil => intro _; simpa using h
  | cons x r ih =>
    intro hx
    have := ready_mono (i := x) h (hx x List.mem_cons_self)
    rw [← lst_snoc] at this
    have h2 := ih this (fun y hy => hx y (List.mem_cons_of_mem _ hy))
    simpa using h2
theorem ready_new {ops : List Oper} {l : List Nat} {j : Nat} (h : j ∈ Region.ready .any ops.toArray (lst ops l)) : j ∉ l := by
  obtain ⟨h0, o, ho, _⟩ := mem_ready.1 h
  have hj : j < ops.length := by simpa using (Array.getElem?_eq_some_iff.1 ho).1
  rw [lst_getD _ hj] at h0
  simpa using h0

/-! ### assertions, many at once -/
theorem St.pushL {w0 w w' : World} {F : Nat → Prop} {L A : List Asrt} (h : St w0 F L w) (hA : St w NoF A w') (he : ∀ x ∈ A, x.excl = true) : St w0 F (A ++ L) w' := by
  have h' := h.grew hA.toKeep
  have hnew : ∀ a ∈ A, ∀ k, a.foot k → w.heap.size ≤ k := fun a ha k hk => Nat.le_of_not_lt fun hlt => hA.mine a ha (he a ha) k hk hlt
  refine ⟨h'.os, h'.tape, h'.output, h'.size, h'.keep, ?_, ?_, ?_, ?_, ?_⟩
  · intro a ha; rcases List.mem_append.1 ha with ha | ha
    · exact hA.holds a ha
    · exact h'.holds a ha
  · intro a ha; rcases List.mem_append.1 ha with ha | ha
    · exact hA.live a ha
    · exact h'.live a ha
  · intro a ha hx k hk hlt; rcases List.mem_append.1 ha with ha | ha
    · have := hnew a ha k hk; have := h.size; omega
    · exact h'.mine a ha hx k hk hlt
  · refine List.pairwise_append.2 ⟨hA.dis, h'.dis, fun a ha b hb _ k hk hk2 => ?_⟩
    have := hnew a ha k hk; have := h.live b hb k hk2; omega
  · intro a ha; rcases List.mem_append.1 ha with ha | ha
    · exact hA.dep a ha
    · exact h'.dep a ha

/-! ### one that may wait -/
structure PI (P : Program) (n : Nat) (ops : List Oper) where
  i : Nat
  d : Nat
  vs : List (Nat × Value)
  C : World → Prop
  val : Nat → Value
  A : Nat → List Asrt
  ok : ∀ (Q : Exit → Act → World → Prop) (h : Frm) (w : World) (a : Act) (K : Act → World → Prop), Has h vs → C w → Fits n a h → (∀ b w' a', St w NoF (A b) w' → Fits n a' (upd h d (val b)) → K a' w') → wpOp P ops.toArray Q i K a w
  ex : ∀ b, ∀ x ∈ A b, x.excl = true

section
variable {P : Program} {n : Nat} {ops : List Oper} {Q : Post} {f : Frm} {C S : World → Prop}

def sF : List (PI P n ops × Option Nat) → Frm → Frm
  | [], f => f
  | (p, some b) :: r, f => upd (sF r f) p.d (p.val b)
  | (_, none) :: r, f => sF r f
def sL : List (PI P n ops × Option Nat) → List Asrt
  | [] => []
  | (p, some b) :: r => p.A b ++ sL r
  | (_, none) :: r => sL r
def sD : List (PI P n ops × Option Nat) → List Nat
  | [] => []
  | (p, some _) :: r => p.i :: sD r
  | (_, none) :: r => sD r
/-- The slots of those that have not come up; their numbers. -/
def nD : List (PI P n ops × Option Nat) → List Nat
  | [] => []
  | (_, some _) :: r => nD r
  | (p, none) :: r => p.d :: nD r
def nI : List (PI P n ops × Option Nat) → List Nat
  | [] => []
  | (_, some _) :: r => nI r
  | (p, none) :: r => p.i :: nI r

variable {σ σ1 σ2 : List (PI P n ops × Option Nat)} {p : PI P n ops} {b : Nat}
theorem sL_set : (sL (σ1 ++ (p, some b) :: σ2)).Perm (p.A b ++ sL (σ1 ++ (p, none) :: σ2)) := by
  induction σ1 with
  | nil => exact List.Perm.refl _
  | cons x r ih =>
    obtain ⟨q, o⟩ := x
    cases o with
    | none => exact ih
    | some c =>
      show (q.A c ++ sL (r ++ (p, some b) :: σ2)).Perm (p.A b ++ (q.A c ++ sL (r ++ (p, none) :: σ2)))
      refine (ih.append_left _).trans ?_
      rw [← List.append_assoc, ← List.append_assoc]
      exact List.perm_append_comm.append_right _
theorem sD_set : (sD (σ1 ++ (p, some b) :: σ2)).Perm (p.i :: sD (σ1 ++ (p, none) :: σ2)) := by
  induction σ1 with
  | nil => exact List.Perm.refl _
  | cons x r ih =>
    obtain ⟨q, o⟩ := x
    cases o with
    | none => exact ih
    | some c => exact (ih.cons q.i).trans (List.Perm.swap _ _ _)
theorem sDnI : ∀ (σ : List (PI P n ops × Option Nat)), (sD σ ++ nI σ).Perm ((σ.map Prod.fst).map PI.i)
  | [] => List.Perm.refl _
  | (p, some b) :: r => (sDnI r).cons p.i
  | (p, none) :: r => by
    show (sD r ++ p.i :: nI r).Perm (p.i :: (r.map Prod.fst).map PI.i)
    exact List.perm_middle.trans ((sDnI r).cons p.i)
theorem sF_off : ∀ {σ : List (PI P n ops × Option Nat)} {t : Nat}, t ∉ (σ.map Prod.fst).map PI.d → sF σ f t = f t
  | [], t, _ => rfl
  | (p, some b) :: r, t, h => by
    simp only [List.map_cons, List.mem_cons, not_or] at h
    show upd _ _ _ t = _
    rw [upd_ne _ _ _ _ h.1, sF_off h.2]
  | (p, none) :: r, t, h => by
    simp only [List.map_cons, List.mem_cons, not_or] at h
    exact sF_off (σ := r) h.2
theorem nD_sub : ∀ {σ : List (PI P n ops × Option Nat)} {t : Nat}, t ∈ nD σ → t ∈ (σ.map Prod.fst).map PI.d
  | (p, some b) :: r, t, h => by simp only [List.map_cons]; exact List.mem_cons_of_mem _ (nD_sub (σ := r) h)
  | (p, none) :: r, t, h => by
    simp only [List.map_cons]
    rcases List.mem_cons.1 h with rfl | h
    · exact List.mem_cons_self
    · exact List.mem_cons_of_mem _ (nD_sub (σ := r) h)
/-- A slot of one that has come up does not hang on what was there before. -/
theorem sF_in {f f' : Frm} : ∀ {σ : List (PI P n ops × Option Nat)} {t : Nat}, ((σ.map Prod.fst).map PI.d).Nodup → t ∈ (σ.map Prod.fst).map PI.d → t ∉ nD σ → sF σ f t = sF σ f' t
  | (p, some b) :: r, t, hn, ht, h => by
    simp only [List.map_cons, List.nodup_cons] at hn
    simp only [List.map_cons] at ht
    show upd _ _ _ t = upd _ _ _ t
    by_cases e : t = p.d
    · subst e; rw [upd_same, upd_same]
    · rw [upd_ne _ _ _ _ e, upd_ne _ _ _ _ e]
      rcases List.mem_cons.1 ht with ht | ht
      · exact absurd ht e
      · exact sF_in (σ := r) hn.2 ht h
  | (p, none) :: r, t, hn, ht, h => by
    simp only [List.map_cons, List.nodup_cons] at hn
    simp only [List.map_cons] at ht
    have h : t ∉ p.d :: nD r := h
    simp only [List.mem_cons, not_or] at h
    rcases List.mem_cons.1 ht with ht | ht
    · exact absurd ht h.1
    · exact sF_in (σ := r) hn.2 ht h.2
theorem sF_set {f : Frm} : ∀ {σ1 : List (PI P n ops × Option Nat)}, (((σ1 ++ (p, none) :: σ2).map Prod.fst).map PI.d).Nodup → sF (σ1 ++ (p, some b) :: σ2) f = upd (sF (σ1 ++ (p, none) :: σ2) f) p.d (p.val b)
  | [], _ => rfl
  | (q, none) :: r, hn => by
    simp only [List.cons_append, List.map_cons, List.nodup_cons] at hn
    exact sF_set (σ1 := r) hn.2
  | (q, some c) :: r, hn => by
    simp only [List.cons_append, List.map_cons, List.nodup_cons] at hn
    have hne : q.d ≠ p.d := fun e => hn.1 (by rw [e]; simp)
    show upd (sF (r ++ (p, some b) :: σ2) f) q.d (q.val c) = upd (upd (sF (r ++ (p, none) :: σ2) f) q.d (q.val c)) p.d (p.val b)
    rw [sF_set (σ1 := r) hn.2]
    funext t
    by_cases h1 : t = q.d
    · subst h1; rw [upd_same, upd_ne _ _ _ _ hne, upd_same]
    · rw [upd_ne _ _ _ _ h1]
      by_cases h2 : t = p.d
      · subst h2; rw [upd_same, upd_same]
      · rw [upd_ne _ _ _ _ h2, upd_ne _ _ _ _ h2, upd_ne _ _ _ _ h1]
theorem nD_set : ∀ {σ1 : List (PI P n ops × Option Nat)} {t : Nat}, t ∈ nD (σ1 ++ (p, none) :: σ2) → t = p.d ∨ t ∈ nD (σ1 ++ (p, some b) :: σ2)
  | [], t, h => List.mem_cons.1 h
  | (q, none) :: r, t, h => by
    rcases List.mem_cons.1 h with rfl | h
    · exact .inr List.mem_cons_self
    · rcases nD_set (σ1 := r) h with h | h
      · exact .inl h
      · exact .inr (List.mem_cons_of_mem _ h)
  | (q, some c) :: r, t, h => nD_set (σ1 := r) h
theorem nI_len : ∀ {σ1 : List (PI P n ops × Option Nat)}, (nI (σ1 ++ (p, none) :: σ2)).length = (nI (σ1 ++ (p, some b) :: σ2)).length + 1
  | [] => rfl
  | (q, none) :: r => by show (nI (r ++ _)).length + 1 = _; exact congrArg (· + 1) (nI_len (σ1 := r))
  | (q, some c) :: r => nI_len (σ1 := r)
theorem nI_find : ∀ {σ : List (PI P n ops × Option Nat)} {j : Nat}, j ∈ nI σ → ∃ σ1 p σ2, σ = σ1 ++ (p, none) :: σ2 ∧ p.i = j
  | (p, none) :: r, j, h => by
    rcases List.mem_cons.1 h with rfl | h
    · exact ⟨[], p, r, rfl, rfl⟩
    · obtain ⟨a, q, c, rfl, e⟩ := nI_find (σ := r) h
      exact ⟨(p, none) :: a, q, c, rfl, e⟩
  | (p, some b) :: r, j, h => by
    obtain ⟨a, q, c, rfl, e⟩ := nI_find (σ := r) h
    exact ⟨(p, some b) :: a, q, c, rfl, e⟩

variable {w0 : World} {F : Nat → Prop} {L : List Asrt} {pend : List (PI P n ops)} {done : List Nat}

/-- The state where of those that may wait some have come up. -/
def PS (P : Program) (n : Nat) (ops : List Oper) (Q : Post) (done : List Nat) (S : World → Prop) (f : Frm) (w0 : World) (F : Nat → Prop) (L : List Asrt) (σ : List (PI P n ops × Option Nat)) : Prop :=
  ∀ w, St w0 F (L ++ sL σ) w → ∀ g, (∀ t, t ∉ nD σ → g t = sF σ f t) → ∀ a, Fits n a g →
    wpAnyH P .any ops.toArray (lift n (only fun f w => Q .normal f w)) S (ops.length - (done.length + (sD σ).length)) (lst ops (done ++ sD σ)) a w
/-- What is left of a drawn region, where pend may have come up, or not. -/
def DP (P : Program) (n : Nat) (ops : List Oper) (Q : Post) (pend : List (PI P n ops)) (done : List Nat) (S : World → Prop) (f : Frm) (w0 : World) (F : Nat → Prop) (L : List Asrt) : Prop :=
  ∀ σ, σ.map Prod.fst = pend → PS P n ops Q done S f w0 F L σ

/-- Those that may wait can come up now. -/
def PAll (f : Frm) (w0 : World) (F : Nat → Prop) (L : List Asrt) : List (PI P n ops) → Prop
  | [] => True
  | p :: r => Has f p.vs ∧ (∀ A w, St w0 F (L ++ A) w → p.C w) ∧ PAll f w0 F L r
theorem PAll.get : ∀ {pend : List (PI P n ops)}, PAll f w0 F L pend → ∀ p ∈ pend, Has f p.vs ∧ ∀ A w, St w0 F (L ++ A) w → p.C w
  | q :: r, h, p, hp => by
    rcases List.mem_cons.1 hp with rfl | hp
    · exact ⟨h.1, h.2.1⟩
    · exact PAll.get h.2.2 p hp
theorem has_same {f g : Frm} : ∀ {vs : List (Nat × Value)}, Has f vs → (∀ q ∈ vs, g q.1 = f q.1) → Has g vs
  | [], _, _ => trivial
  | q :: r, h, hg => ⟨(hg q List.mem_cons_self).trans h.1, has_same h.2 fun x hx => hg x (List.mem_cons_of_mem _ hx)⟩
/-- Tests on numbers and slots alone. -/
def pOk (pend : List (PI P n ops)) : Bool :=
  decide (pend.map PI.i).Nodup && decide (pend.map PI.d).Nodup && pend.all fun p => p.vs.all fun q => !(pend.map PI.d).contains q.1
def pOkL (is ds : List Nat) (vss : List (List Nat)) : Bool := decide is.Nodup && decide ds.Nodup && vss.all fun l => l.all fun q => !ds.contains q
theorem pOk_of {is ds : List Nat} {vss : List (List Nat)} (h1 : pend.map PI.i = is) (h2 : pend.map PI.d = ds) (h3 : (pend.map fun p => p.vs.map Prod.fst) = vss) (h : pOkL is ds vss = true) : pOk pend = true := by
  subst h1 h2 h3
  simpa [pOk, pOkL, List.all_map, Function.comp_def] using h

theorem PS.exec (hp : pOk pend = true) (hall : PAll f w0 F L pend) (hS : ∀ A w, St w0 F (L ++ A) w → S w) (he : σ1.map Prod.fst ++ p :: σ2.map Prod.fst = pend) (hlen : done.length + (sD (σ1 ++ (p, none) :: σ2)).length < ops.length)
    (ih : ∀ b, PS P n ops Q done S f w0 F L (σ1 ++ (p, some b) :: σ2)) {w : World} (hw : St w0 F (L ++ sL (σ1 ++ (p, none) :: σ2)) w) {g : Frm} (hg : ∀ t, t ∉ nD (σ1 ++ (p, none) :: σ2) → g t = sF (σ1 ++ (p, none) :: σ2) f t) {a : Act} (ha : Fits n a g) {fuel : Nat} (hf : ops.length - (done.length + (sD (σ1 ++ (p, none) :: σ2)).length) = fuel + 1) :
    wpOp P ops.toArray (lift n (only fun f w => Q .normal f w)) p.i (fun a' w' => S w' ∧ wpAnyH P .any ops.toArray (lift n (only fun f w => Q .normal f w)) S fuel ((lst ops (done ++ sD (σ1 ++ (p, none) :: σ2))).setIfInBounds p.i true) a' w') a w := by
  have hpm : p ∈ pend := by rw [← he]; simp
  obtain ⟨hh, hC⟩ := hall.get p hpm
  simp only [pOk, Bool.and_eq_true, decide_eq_true_eq, List.all_eq_true] at hp
  obtain ⟨⟨hn1, hn2⟩, hn3⟩ := hp
  have hmap : ∀ o, (σ1 ++ (p, o) :: σ2).map Prod.fst = pend := fun o => by rw [List.map_append, List.map_cons]; exact he
  have hd2 : (((σ1 ++ (p, none) :: σ2).map Prod.fst).map PI.d).Nodup := by rw [hmap]; exact hn2
  refine p.ok _ g w a _ (has_same hh fun q hq => ?_) (hC _ _ hw) ha fun b w' a' hb ha' => ?_
  · have h3 := hn3 p hpm q hq
    have h4 : q.1 ∉ ((σ1 ++ (p, none) :: σ2).map Prod.fst).map PI.d := by rw [hmap]; simpa using h3
    rw [hg _ (fun hx => h4 (nD_sub hx)), sF_off h4]
  · have h1 : St w0 F (L ++ sL (σ1 ++ (p, some b) :: σ2)) w' := by
      refine (hw.pushL hb (p.ex b)).perm ?_
      refine List.Perm.trans ?_ (sL_set.symm.append_left L)
      rw [← List.append_assoc, ← List.append_assoc]
      exact List.perm_append_comm.append_right _
    refine ⟨hS _ _ h1, ?_⟩
    have h2 := ih b w' h1 (upd g p.d (p.val b)) (fun t ht => ?_) a' ha'
    · have e1 : lst ops (done ++ sD (σ1 ++ (p, some b) :: σ2)) = (lst ops (done ++ sD (σ1 ++ (p, none) :: σ2))).setIfInBounds p.i true := by
        rw [← lst_snoc]
        refine lst_perm ?_
        rw [List.append_assoc]
        exact (sD_set.trans (List.perm_append_comm (l₁ := [p.i]))).append_left done
      have e2 : ops.length - (done.length + (sD (σ1 ++ (p, some b) :: σ2)).length) = fuel := by
        have := (sD_set (σ1 := σ1) (σ2 := σ2) (p := p) (b := b)).length_eq
        simp only [List.length_cons] at this
        omega
      rw [e1, e2] at h2
      exact h2
    · rw [sF_set hd2]
      by_cases e : t = p.d
      · subst e; rw [upd_same, upd_same]
      · rw [upd_ne _ _ _ _ e, upd_ne _ _ _ _ e]
        refine hg t fun hx => ?_
        rcases nD_set (b := b) hx with h | h
        · exact e h
        · exact ht h

theorem DP.begin (pend : List (PI P n ops)) (h : DP P n ops Q pend done S f w0 F L) : DW P n ops Q done S f (St w0 F L) := by
  intro w hw a ha
  have key : ∀ (pd : List (PI P n ops)), sL (pd.map fun p => (p, (none : Option Nat))) = [] ∧ sD (pd.map fun p => (p, (none : Option Nat))) = [] ∧ ∀ f, sF (pd.map fun p => (p, (none : Option Nat))) f = f := by
    intro pd
    induction pd with
    | nil => exact ⟨rfl, rfl, fun _ => rfl⟩
    | cons q r ih => exact ⟨ih.1, ih.2.1, ih.2.2⟩
  obtain ⟨k1, k2, k3⟩ := key pend
  have := h (pend.map fun p => (p, none)) (by simp [List.map_map, Function.comp_def]) w (by rw [k1, List.append_nil]; exact hw) f (fun t _ => by rw [k3]) a ha
  rw [k2, List.append_nil] at this
  exact this
theorem DP.nil (h : DW P n ops Q done S f (St w0 F L)) : DP P n ops Q [] done S f w0 F L := by
  intro σ hσ w hw g hg a ha
  have : σ = [] := List.map_eq_nil_iff.1 hσ
  subst this
  have e : g = f := funext fun t => hg t (by simp [nD])
  subst e
  have := h w (by simpa [sL] using hw) a ha
  simpa [sD] using this
/-- One more that may wait. -/
theorem DP.more (p : PI P n ops) (h : DP P n ops Q (p :: pend) done S f w0 F L) : DP P n ops Q pend done S f w0 F L := by
  intro σ hσ w hw g hg a ha
  refine h ((p, none) :: σ) (by simp [hσ]) w hw g (fun t ht => hg t fun hx => ht (List.mem_cons_of_mem _ hx)) a ha

theorem sD_le : ∀ (σ : List (PI P n ops × Option Nat)), (sD σ).length + (nI σ).length = σ.length
  | [] => rfl
  | (p, some b) :: r => by have := sD_le r; simp only [sD, nI, List.length_cons]; omega
  | (p, none) :: r => by have := sD_le r; simp only [sD, nI, List.length_cons]; omega

/-- The walk goes on behind an operation that came up, whatever of those that may wait had come up. -/
def pnext (P : Program) (n : Nat) (ops : List Oper) (Q : Post) (pend : List (PI P n ops)) (done : List Nat) (S : World → Prop) (w0 : World) (F : Nat → Prop) (g : Frm) (A : List Asrt) : Post :=
  only fun f' w' => ∃ (L' : List Asrt) (f'' : Frm), (∀ t, f' t = bif (pend.map PI.d).contains t then g t else f'' t) ∧ St w0 F (L' ++ A) w' ∧ (∀ A w, St w0 F (L' ++ A) w → S w) ∧ DP P n ops Q pend done S f'' w0 F L'

theorem wpOp_of_LR {R : Frm → World → Prop} {i : Nat} {o : Oper} (hi : ops[i]? = some o) {w : World} {a : Act} (ha : Fits n a f) (hC : C w) (h : LR false P n ops [o] (only R) f C) {K : Act → World → Prop} {Qx : Exit → Act → World → Prop}
    (hK : ∀ a' f' w', Fits n a' f' → R f' w' → K a' w') : wpOp P ops.toArray Qx i K a w := by
  have h1 := h w hC a ha
  have ho : ops.toArray[i]? = some o := by simpa using hi
  unfold wpOp
  simp only [ho]
  simp only [wpList] at h1
  have conv : ∀ a' w', lift n (only R) .normal a' w' → K a' w' := by
    intro a' w' hq
    obtain ⟨f', hf', _, hR⟩ := hq
    exact hK a' f' w' hf' hR
  split
  · rename_i hwn
    rw [if_pos hwn] at h1
    rcases h1 with h1 | ⟨_, a', w', f', hf', he, _⟩
    · refine .inl ?_
      have h2 := Oper.wp_mono conv h1
      unfold Oper.wp at h2 ⊢
      generalize (execOp a.eval o).run P w = r at *
      cases r with
      | ok nx w' =>
        cases nx <;> simp only [Oper.upon] at h2 ⊢
        case value => exact h2
        case skip => exact h2
        case defer => exact h2
        case enter g args =>
          refine Calls.mono h2 fun e w'' he => ?_
          cases e with
          | returned u => exact he
          | panicked c => obtain ⟨_, _, he, _⟩ := he; cases he
          | outgrown => obtain ⟨_, _, _, _, he, _⟩ := he; cases he
        case row => exact h2
      | halt x w' =>
        cases x <;> simp only [Oper.upon] at h2 ⊢
        case panic => obtain ⟨_, _, he, _⟩ := h2; cases he
    · cases he
  · rename_i hwn
    rw [if_neg hwn] at h1
    exact conv _ _ h1

theorem DP.loud (i : Nat) {o : Oper} (hi : ops[i]? = some o)
    (hr : (pOk pend && (Region.ready .any ops.toArray (lst ops done)).contains i && (Region.ready .any ops.toArray (lst ops (done ++ pend.map PI.i))).all (fun j => Nat.beq j i) && !(pend.map PI.i).contains i && Nat.blt (done.length + pend.length) ops.length) = true)
    (hall : PAll f w0 F L pend) (hS : ∀ A w, St w0 F (L ++ A) w → S w)
    (h : ∀ g A LA, LA = L ++ A → LR false P n ops [o] (pnext P n ops Q pend (done ++ [i]) S w0 F g A) (mix (pend.map PI.d) g f) (St w0 F LA)) : DP P n ops Q pend done S f w0 F L := by
  simp only [Bool.and_eq_true] at hr
  obtain ⟨⟨⟨⟨hp, hri⟩, hra⟩, hni⟩, hl⟩ := hr
  have hri : i ∈ Region.ready .any ops.toArray (lst ops done) := by simpa using hri
  have hni : i ∉ pend.map PI.i := by
    intro hx
    have : (pend.map PI.i).contains i = true := List.elem_eq_true_of_mem hx
    rw [this] at hni; cases hni
  have hl := blt_lt hl
  have hp' := hp
  simp only [pOk, Bool.and_eq_true, decide_eq_true_eq, List.all_eq_true] at hp'
  obtain ⟨⟨hn1, hn2⟩, hn3⟩ := hp'
  suffices key : ∀ m σ, (nI σ).length = m → σ.map Prod.fst = pend → PS P n ops Q done S f w0 F L σ from fun σ hσ => key _ σ rfl hσ
  intro m
  induction m with
  | zero | succ m ih =>
    intro σ hm hσ w hw g hg a ha
    have hlen : (sD σ).length + (nI σ).length = pend.length := by rw [sD_le, ← hσ]; simp
    have hdn := sDnI σ
    rw [hσ] at hdn
    obtain ⟨fuel, hfuel⟩ : ∃ fuel, ops.length - (done.length + (sD σ).length) = fuel + 1 := ⟨ops.length - (done.length + (sD σ).length) - 1, by omega⟩
    rw [hfuel]
    have hsD : ∀ x ∈ sD σ, x ∈ pend.map PI.i := fun x hx => hdn.mem_iff.1 (List.mem_append_left _ hx)
    have hir : i ∈ Region.ready .any ops.toArray (lst ops (done ++ sD σ)) := ready_more hri _ fun x hx e => hni (e ▸ hsD x hx)
    refine ⟨fun h0 => (by rw [h0] at hir; cases hir), fun j hj => ?_⟩
    by_cases hjp : j ∈ nI σ
    · first
      | (rw [List.eq_nil_of_length_eq_zero hm] at hjp; cases hjp; done)
      | (obtain ⟨σ1, p, σ2, rfl, rfl⟩ := nI_find hjp
         refine PS.exec hp hall hS (by rw [← hσ, List.map_append, List.map_cons]) (by omega) (fun b => ih _ ?_ ?_) hw hg ha hfuel
         · have := nI_len (σ1 := σ1) (σ2 := σ2) (p := p) (b := b); omega
         · rw [← hσ]; simp)
    · have hjr : j ∈ Region.ready .any ops.toArray (lst ops (done ++ pend.map PI.i)) := by
        have h1 := ready_more hj (nI σ) (fun x hx e => hjp (e ▸ hx))
        rwa [lst_perm (l' := done ++ pend.map PI.i) (by rw [List.append_assoc]; exact hdn.append_left done)] at h1
      have hji : j = i := Nat.eq_of_beq_eq_true (List.all_eq_true.1 hra j hjr)
      subst hji
      have hmix : mix (pend.map PI.d) g f = g := by
        funext t
        simp only [mix]
        cases hc : (pend.map PI.d).contains t with
        | true => rfl
        | false =>
          have ht : t ∉ (σ.map Prod.fst).map PI.d := by
            rw [hσ]; intro hx; have hx' : (pend.map PI.d).contains t = true := List.elem_eq_true_of_mem hx; rw [hx'] at hc; cases hc
          rw [cond_false, hg t (fun hx => ht (nD_sub hx)), sF_off ht]
      have hLR := h g (sL σ) _ rfl
      rw [hmix] at hLR
      refine wpOp_of_LR hi ha hw hLR fun a' f' w' hf' ⟨L', f'', h1, h2, h3, h4⟩ => ⟨h3 _ _ h2, ?_⟩
      have h5 := h4 σ hσ w' h2 f' (fun t ht => ?_) a' hf'
      · have e1 : lst ops (done ++ [j] ++ sD σ) = (lst ops (done ++ sD σ)).setIfInBounds j true := by
          rw [← lst_snoc]
          refine lst_perm ?_
          rw [List.append_assoc, List.append_assoc]
          exact List.perm_append_comm.append_left done
        have e2 : ops.length - ((done ++ [j]).length + (sD σ).length) = fuel := by simp only [List.length_append, List.length_cons, List.length_nil]; omega
        rw [e1, e2] at h5
        exact h5
      · rw [h1 t]
        cases hc : (pend.map PI.d).contains t with
        | true =>
          have ht2 : t ∈ (σ.map Prod.fst).map PI.d := by rw [hσ]; simpa using hc
          rw [cond_true, hg t ht]
          exact sF_in (by rw [hσ]; exact hn2) ht2 ht
        | false =>
          have ht2 : t ∉ (σ.map Prod.fst).map PI.d := by
            rw [hσ]; intro hx; have hx' : (pend.map PI.d).contains t = true := List.elem_eq_true_of_mem hx; rw [hx'] at hc; cases hc
          rw [cond_false, sF_off ht2]

/-- The first one is wanted now. -/
theorem DP.settle {r : List (PI P n ops)}
    (hr : (pOk (p :: r) && (Region.ready .any ops.toArray (lst ops done)).contains p.i && (Region.ready .any ops.toArray (lst ops (done ++ r.map PI.i))).all (fun j => Nat.beq j p.i) && Nat.blt (done.length + r.length) ops.length) = true)
    (hall : PAll f w0 F L (p :: r)) (hS : ∀ A w, St w0 F (L ++ A) w → S w)
    (h : ∀ b, DP P n ops Q r (done ++ [p.i]) S (upd f p.d (p.val b)) w0 F (p.A b ++ L)) : DP P n ops Q (p :: r) done S f w0 F L := by
  simp only [Bool.and_eq_true] at hr
  obtain ⟨⟨⟨hp, hri⟩, hra⟩, hl⟩ := hr
  have hri : p.i ∈ Region.ready .any ops.toArray (lst ops done) := by simpa using hri
  have hl := blt_lt hl
  have hp' := hp
  simp only [pOk, Bool.and_eq_true, decide_eq_true_eq, List.all_eq_true] at hp'
  obtain ⟨⟨hn1, hn2⟩, hn3⟩ := hp'
  have hn1' := List.nodup_cons.1 (show (p.i :: r.map PI.i).Nodup from hn1)
  have hn2' := List.nodup_cons.1 (show (p.d :: r.map PI.d).Nodup from hn2)
  suffices key : ∀ m σ, (nI σ).length = m → σ.map Prod.fst = p :: r → PS P n ops Q done S f w0 F L σ from fun σ hσ => key _ σ rfl hσ
  intro m
  induction m with
  | zero | succ m ih =>
    intro σ hm hσ w hw g hg a ha
    match σ, hσ, hm, hw, hg with
    | (q, some b) :: τ, hσ, hm, hw, hg =>
      simp only [List.map_cons, List.cons.injEq] at hσ
      obtain ⟨rfl, hτ⟩ := hσ
      have h5 := h b τ hτ w (hw.perm (by
        show (L ++ (q.A b ++ sL τ)).Perm (q.A b ++ L ++ sL τ)
        rw [← List.append_assoc]
        exact List.perm_append_comm.append_right _)) g (fun t ht => by
          rw [hg t ht]
          show upd (sF τ f) q.d (q.val b) t = _
          by_cases e : t = q.d
          · subst e
            rw [upd_same, sF_off (by rw [hτ]; exact hn2'.1), upd_same]
          · rw [upd_ne _ _ _ _ e]
            by_cases ht2 : t ∈ (τ.map Prod.fst).map PI.d
            · exact sF_in (by rw [hτ]; exact hn2'.2) ht2 ht
            · rw [sF_off ht2, sF_off ht2, upd_ne _ _ _ _ e]) a ha
      have e1 : lst ops (done ++ [q.i] ++ sD τ) = lst ops (done ++ sD ((q, some b) :: τ)) := by rw [List.append_assoc]; rfl
      have e2 : (done ++ [q.i]).length + (sD τ).length = done.length + (sD ((q, some b) :: τ)).length := by simp [sD]; omega
      rw [e1, e2] at h5
      exact h5
    | (q, none) :: τ, hσ, hm, hw, hg =>
      simp only [List.map_cons, List.cons.injEq] at hσ
      obtain ⟨rfl, hτ⟩ := hσ
      first
      | (simp only [nI, List.length_cons, Nat.add_one_ne_zero] at hm; done)
      | (
      have hlen : (sD τ).length + (nI τ).length = r.length := by rw [sD_le, ← hτ]; simp
      have hdn := sDnI τ
      rw [hτ] at hdn
      have hsd : sD ((q, none) :: τ) = sD τ := rfl
      obtain ⟨fuel, hfuel⟩ : ∃ fuel, ops.length - (done.length + (sD ((q, none) :: τ)).length) = fuel + 1 := ⟨ops.length - (done.length + (sD τ).length) - 1, by rw [hsd]; omega⟩
      rw [hfuel]
      have hsD : ∀ x ∈ sD τ, x ∈ r.map PI.i := fun x hx => hdn.mem_iff.1 (List.mem_append_left _ hx)
      have hir : q.i ∈ Region.ready .any ops.toArray (lst ops (done ++ sD τ)) := ready_more hri _ fun x hx e => hn1'.1 (e ▸ hsD x hx)
      rw [hsd]
      refine ⟨fun h0 => (by rw [h0] at hir; cases hir), fun j hj => ?_⟩
      have hjn : j ∈ nI ((q, none) :: τ) := by
        by_cases hjp : j ∈ nI τ
        · exact List.mem_cons_of_mem _ hjp
        · have hjr : j ∈ Region.ready .any ops.toArray (lst ops (done ++ r.map PI.i)) := by
            have h1 := ready_more hj (nI τ) (fun x hx e => hjp (e ▸ hx))
            rwa [lst_perm (l' := done ++ r.map PI.i) (by rw [List.append_assoc]; exact hdn.append_left done)] at h1
          have hji : j = q.i := Nat.eq_of_beq_eq_true (List.all_eq_true.1 hra j hjr)
          rw [hji]; exact List.mem_cons_self
      obtain ⟨σ1, p', σ2, e, rfl⟩ := nI_find hjn
      have hm' : σ1.map Prod.fst ++ p' :: σ2.map Prod.fst = q :: r := by
        have := congrArg (List.map Prod.fst) e
        rw [List.map_append, List.map_cons, List.map_cons, hτ] at this
        exact this.symm
      rw [← hsd]
      rw [e] at hw hg hm hfuel ⊢
      refine PS.exec hp hall hS hm' (by rw [← e, hsd]; omega) (fun b => ih _ ?_ ?_) hw hg ha hfuel
      · have := nI_len (σ1 := σ1) (σ2 := σ2) (p := p') (b := b); omega
      · rw [← hm']; simp)
/-! ### with literal lists -/
variable {is ds : List Nat} {vss : List (List Nat)}
theorem DP.go (i : Nat) (is ds : List Nat) (vss : List (List Nat)) {o : Oper} (hi : ops[i]? = some o) (h1 : pend.map PI.i = is) (h2 : pend.map PI.d = ds) (h3 : (pend.map fun p => p.vs.map Prod.fst) = vss)
    (hr : (pOkL is ds vss && (Region.ready .any ops.toArray (lst ops done)).contains i && (Region.ready .any ops.toArray (lst ops (done ++ is))).all (fun j => Nat.beq j i) && !is.contains i && Nat.blt (done.length + is.length) ops.length) = true)
    (hall : PAll f w0 F L pend) (hS : ∀ A w, St w0 F (L ++ A) w → S w)
    (h : ∀ g A LA, LA = L ++ A → LR false P n ops [o] (pnext P n ops Q pend (done ++ [i]) S w0 F g A) (mix ds g f) (St w0 F LA)) : DP P n ops Q pend done S f w0 F L := by
  simp only [Bool.and_eq_true] at hr
  have hp := pOk_of h1 h2 h3 hr.1.1.1.1
  have hl : is.length = pend.length := by rw [← h1]; simp
  subst h1 h2
  exact DP.loud i hi (by simp only [Bool.and_eq_true]; exact ⟨⟨⟨⟨hp, hr.1.1.1.2⟩, hr.1.1.2⟩, hr.1.2⟩, by rw [← hl]; exact hr.2⟩) hall hS h
theorem DP.take (i d : Nat) (val : Nat → Value) (A : Nat → List Asrt) (is ds : List Nat) (vss : List (List Nat)) {r : List (PI P n ops)} (hp1 : p.i = i) (hpd : p.d = d) (hpv : p.val = val) (hpA : p.A = A) (h1 : r.map PI.i = is) (h2 : (p :: r).map PI.d = ds) (h3 : ((p :: r).map fun p => p.vs.map Prod.fst) = vss)
    (hr : (pOkL (i :: is) ds vss && (Region.ready .any ops.toArray (lst ops done)).contains i && (Region.ready .any ops.toArray (lst ops (done ++ is))).all (fun j => Nat.beq j i) && Nat.blt (done.length + is.length) ops.length) = true)
    (hall : PAll f w0 F L (p :: r)) (hS : ∀ A w, St w0 F (L ++ A) w → S w)
    (h : ∀ b, DP P n ops Q r (done ++ [i]) S (upd f d (val b)) w0 F (A b ++ L)) : DP P n ops Q (p :: r) done S f w0 F L := by
  simp only [Bool.and_eq_true] at hr
  have hp := pOk_of (pend := p :: r) (is := i :: is) (by rw [List.map_cons, h1, hp1]) h2 h3 hr.1.1.1
  have hl : is.length = r.length := by rw [← h1]; simp
  subst h1 hp1 hpd hpv hpA
  exact DP.settle (by simp only [Bool.and_eq_true]; exact ⟨⟨⟨hp, hr.1.1.2⟩, hr.1.2⟩, by rw [← hl]; exact hr.2⟩) hall hS h

/-! ### those that only read -/
theorem lst_sub {l e : List Nat} {j : Nat} (hj : j < ops.length) (h : (lst ops l).getD j true = true) : (lst ops (l ++ e)).getD j true = true := by
  rw [lst_getD _ hj] at h ⊢
  simp only [List.contains_iff_mem] at h ⊢
  exact List.mem_append_left _ h
theorem free_more {l e : List Nat} {i : Nat} (h : Region.free .any ops.toArray (lst ops l) i = true) : Region.free .any ops.toArray (lst ops (l ++ e)) i = true := by
  unfold Region.free at h ⊢
  split
  · rename_i h0; rw [h0] at h; exact h
  · rename_i oi h0
    rw [h0] at h
    simp only [List.all_eq_true, List.mem_range] at h ⊢
    intro j hj
    have hj' : j < ops.length := by simpa using hj
    have := h j hj
    simp only [Bool.or_eq_true] at this ⊢
    rcases this with (h1 | h1) | h1
    · exact .inl (.inl h1)
    · exact .inl (.inr (lst_sub hj' h1))
    · exact .inr h1
theorem headB_more : ∀ {H l e : List Nat}, headB ops.toArray (lst ops l) H = true → (∀ x ∈ e, x ∉ H) → headB ops.toArray (lst ops (l ++ e)) H = true
  | [], _, _, _, _ => rfl
  | i :: r, l, e, h, he => by
    simp only [headB, Bool.and_eq_true] at h ⊢
    obtain ⟨⟨h1, h2⟩, h3⟩ := h
    refine ⟨⟨?_, free_more h2⟩, ?_⟩
    · have : i ∈ Region.ready .any ops.toArray (lst ops l) := by simpa using h1
      have := ready_more this e (fun x hx e2 => he x hx (e2 ▸ List.mem_cons_self))
      simpa using this
    · rw [← lst_snoc] at h3 ⊢
      have := headB_more (H := r) (e := e) h3 (fun x hx hr => he x hx (List.mem_cons_of_mem _ hr))
      rw [lst_perm (l' := l ++ e ++ [i])] at this
      · exact this
      · rw [List.append_assoc, List.append_assoc]
        exact List.perm_append_comm.append_left l
theorem quiet_go {K : Frm → Prop} {w : World} {R : Frm → World → Prop} : ∀ (H l : List Nat) (fr : Frm) (a : Act) (fuel : Nat), headB ops.toArray (lst ops l) H = true → Region.noSelect ops.toArray = true → QL P n ops S K H fr → Fits n a fr → S w →
    (∀ fr' a', K fr' → Fits n a' fr' → wpAnyH P .any ops.toArray (lift n (only R)) S fuel (lst ops (l ++ H)) a' w) → wpAnyH P .any ops.toArray (lift n (only R)) S (fuel + H.length) (lst ops l) a w
  | [], l, fr, a, fuel, _, _, hq, ha, _, hk => by
    have := hk fr a hq ha
    simpa using this
  | i :: r, l, fr, a, fuel, hB, hs, hq, ha, hS, hk => by
    simp only [headB, Bool.and_eq_true] at hB
    obtain ⟨⟨h1, h2⟩, h3⟩ := hB
    obtain ⟨o, v, ho, hd, hy, hq'⟩ := hq
    have ih := quiet_go (R := R) r (l ++ [i]) _ _ fuel (by rw [lst_snoc]; exact h3) hs hq' (ha.putO o.dst v hd) hS (fun fr' a' hK hf => by
      have := hk fr' a' hK hf
      rw [List.append_assoc]; exact this)
    rw [lst_snoc] at ih
    have e : fuel + (i :: r).length = (fuel + r.length) + 1 := by simp only [List.length_cons]; omega
    rw [e]
    exact wpAnyH_take (by simpa using ho) hs h2 h1 (fun c a w hq => by obtain ⟨_, _, he, _⟩ := hq; cases he) (hy a ha) hS ih
def pq (P : Program) (n : Nat) (ops : List Oper) (Q : Post) (pend : List (PI P n ops)) (done : List Nat) (S : World → Prop) (w0 : World) (F : Nat → Prop) (L : List Asrt) (ds : List Nat) (g : Frm) : Frm → Prop :=
  fun f' => ∃ f'', (∀ t, f' t = bif ds.contains t then g t else f'' t) ∧ DP P n ops Q pend done S f'' w0 F L
theorem DP.quiet (H is ds : List Nat) (h1 : pend.map PI.i = is) (h2 : pend.map PI.d = ds)
    (hr : (decide ds.Nodup && headB ops.toArray (lst ops done) H && Region.noSelect ops.toArray && Nat.ble (done.length + H.length + is.length) ops.length && is.all (fun i => !H.contains i)) = true)
    (hS : ∀ A w, St w0 F (L ++ A) w → S w) (h : ∀ g, QL P n ops S (pq P n ops Q pend (done ++ H) S w0 F L ds g) H (mix ds g f)) : DP P n ops Q pend done S f w0 F L := by
  simp only [Bool.and_eq_true, decide_eq_true_eq] at hr
  obtain ⟨⟨⟨⟨hn2, hB⟩, hs⟩, hl⟩, hd⟩ := hr
  have hl := Nat.le_of_ble_eq_true hl
  have hlen : is.length = pend.length := by rw [← h1]; simp
  subst h1 h2
  intro σ hσ w hw g hg a ha
  have hmix : mix (pend.map PI.d) g f = g := by
    funext t
    simp only [mix]
    cases hc : (pend.map PI.d).contains t with
    | true => rfl
    | false =>
      have ht : t ∉ (σ.map Prod.fst).map PI.d := by
        rw [hσ]; intro hx; have hx' : (pend.map PI.d).contains t = true := List.elem_eq_true_of_mem hx; rw [hx'] at hc; cases hc
      rw [cond_false, hg t (fun hx => ht (nD_sub hx)), sF_off ht]
  have hq := h g
  rw [hmix] at hq
  have hdn := sDnI σ
  rw [hσ] at hdn
  have hsD : ∀ x ∈ sD σ, x ∈ pend.map PI.i := fun x hx => hdn.mem_iff.1 (List.mem_append_left _ hx)
  have hle : (sD σ).length ≤ pend.length := by have := sD_le σ; rw [← hσ, List.length_map]; omega
  have e : ops.length - (done.length + (sD σ).length) = (ops.length - ((done ++ H).length + (sD σ).length)) + H.length := by simp only [List.length_append]; omega
  rw [e]
  refine quiet_go H (done ++ sD σ) g a _ (headB_more hB fun x hx hxH => ?_) hs hq ha (hS _ _ hw) fun fr' a' hK hf => ?_
  · have := List.all_eq_true.1 hd x (hsD x hx)
    have h2 : H.contains x = true := List.elem_eq_true_of_mem hxH
    rw [h2] at this; cases this
  · obtain ⟨f'', h5, h6⟩ := hK
    have := h6 σ hσ w hw fr' (fun t ht => ?_) a' hf
    · rw [lst_perm (l' := done ++ sD σ ++ H)] at this
      · exact this
      · rw [List.append_assoc, List.append_assoc]
        exact List.perm_append_comm.append_left done
    · rw [h5 t]
      cases hc : (pend.map PI.d).contains t with
      | true =>
        have ht2 : t ∈ (σ.map Prod.fst).map PI.d := by rw [hσ]; simpa using hc
        rw [cond_true, hg t ht]
        exact sF_in (by rw [hσ]; exact hn2) ht2 ht
      | false =>
        have ht2 : t ∉ (σ.map Prod.fst).map PI.d := by
          rw [hσ]; intro hx; have hx' : (pend.map PI.d).contains t = true := List.elem_eq_true_of_mem hx; rw [hx'] at hc; cases hc
        rw [cond_false, sF_off ht2]

/-! ### frames that are g at the slots ds, and elsewhere another one -/
inductive MixR (ds : List Nat) (g : Frm) : Frm → Frm → Prop
  | base (f : Frm) : MixR ds g (mix ds g f) f
  | upd {f' f0 : Frm} {d : Nat} {v : Value} (h : MixR ds g f' f0) (hd : ds.contains d = false) : MixR ds g (Hb.upd f' d v) (Hb.upd f0 d v)
theorem MixR.eq {g f' f0 : Frm} (h : MixR ds g f' f0) : ∀ t, f' t = bif ds.contains t then g t else f0 t := by
  induction h with
  | base f => exact fun t => rfl
  | @upd f' f0 d v h hd ih =>
    intro t
    by_cases e : t = d
    · subst e; rw [hd, cond_false, upd_same, upd_same]
    · rw [upd_ne _ _ _ _ e, ih t, upd_ne _ _ _ _ e]
inductive Tl (A : List Asrt) : List Asrt → List Asrt → Prop
  | nil : Tl A A []
  | cons {x : Asrt} {l l' : List Asrt} (h : Tl A l l') : Tl A (x :: l) (x :: l')
theorem Tl.eq {A l l' : List Asrt} (h : Tl A l l') : l = l' ++ A := by
  induction h with
  | nil => rfl
  | cons h ih => rw [ih]; rfl
theorem pq_done {g f' f0 : Frm} (hm : MixR ds g f' f0) (h : DP P n ops Q pend done S f0 w0 F L) : pq P n ops Q pend done S w0 F L ds g f' := ⟨_, hm.eq, h⟩
theorem At.pdone {g f' f0 : Frm} {A LA L' : List Asrt} (h2 : pend.map PI.d = ds) (hm : MixR ds g f' f0) (hL : Tl A LA L') (hS : ∀ A w, St w0 F (L' ++ A) w → S w)
    (h : DP P n ops Q pend done S f0 w0 F L') : At (pnext P n ops Q pend done S w0 F g A) .normal f' (St w0 F LA) := by
  subst h2
  intro w hw
  exact ⟨rfl, L', _, hm.eq, by rw [← hL.eq]; exact hw, hS, h⟩

/-! ### what may wait -/
theorem upd_updL {h : Frm} {vs : List (Nat × Value)} (hh : Has h vs) : updL h vs = h := updL_has hh fun _ _ => rfl
/-- An operation that makes memory of its own. -/
def PI.lr (i d : Nat) (vs : List (Nat × Value)) (val : Nat → Value) (A : Nat → List Asrt) {o : Oper} (hi : ops[i]? = some o) (ex : ∀ b, ∀ x ∈ A b, x.excl = true)
    (h : ∀ h w, LR false P n ops [o] (only fun f' w' => ∃ b, f' = upd (updL h vs) d (val b) ∧ St w NoF (A b) w') (updL h vs) (St w NoF [])) : PI P n ops where
  i := i
  d := d
  vs := vs
  C := fun _ => True
  val := val
  A := A
  ok := fun Q fr w a K hh _ ha hk => by
    have := h fr w
    rw [upd_updL hh] at this
    exact wpOp_of_LR hi ha (St.refl w NoF) this fun a' f' w' hf' ⟨b, e, hs⟩ => hk b w' a' hs (by rw [← e]; exact hf')
  ex := ex
theorem At.made {d b : Nat} {h : Frm} {val : Nat → Value} {A : Nat → List Asrt} {w : World} {f' : Frm} (hf : f' = upd h d (val b)) : At (only fun f' w' => ∃ b, f' = upd h d (val b) ∧ St w NoF (A b) w') .normal f' (St w NoF (A b)) := fun _ hw => ⟨rfl, b, hf, hw⟩
/-- A call that only lets the world grow. -/
def PI.call (i d : Nat) (vs : List (Nat × Value)) (C : World → Prop) (v : Value) {g : FuncId} {xs : List Operand} {args : List Value} {ts : Array TypeId} {T : TypeId} {pp : String} {af : Array Edge} [own : Own P g]
    (hi : ops[i]? = some ⟨some d, .call ⟨.value (.func g), xs.toArray, ts⟩, T, pp, af, none⟩) (hd : Nat.blt d n = true) (hx : ∀ h, xs.map (updL h vs).ev = args)
    (h : ∀ w, C w → CallsTo P g args w fun u w' => u = v ∧ Grew w w') : PI P n ops where
  i := i
  d := d
  vs := vs
  C := C
  val := fun _ => v
  A := fun _ => []
  ok := fun Q fr w a K hh hC ha hk => by
    refine wpOp_of_LR (C := fun u => u = w) hi ha rfl (R := fun f' w' => f' = upd fr d v ∧ Grew w w') (LR.call hd fun w1 e => ?_) fun a' f' w' hf' ⟨e, hs⟩ => hk 0 w' a' hs (by rw [← e]; exact hf')
    subst e
    have hx' := hx fr
    rw [upd_updL hh] at hx'
    rw [hx']
    refine (h w1 hC).mono ?_
    rintro u w' ⟨rfl, hg⟩
    refine LW.sub (D := fun u => u = w') ?_ (fun _ e => e)
    exact LR.nil (m := false) fun w2 e => by subst e; exact ⟨rfl, rfl, hg⟩
  ex := fun _ x hx => by cases hx
/-! ### a drawn region that stores into the first, second or third object: the others stay -/
theorem CW.reg_held1 {id : Nat} {x : Asrt} {L : List Asrt} [hm : Mixed P] (h : DW P n ops Q [] (St w0 F L) f (St w0 F (x :: L))) : CW P n (.region id ops.toArray true) Q f (St w0 F (x :: L)) := CW.reg_held _ h
theorem CW.reg_held2 {id : Nat} {x y : Asrt} {L : List Asrt} [hm : Mixed P] (h : DW P n ops Q [] (St w0 F (x :: L)) f (St w0 F (x :: y :: L))) : CW P n (.region id ops.toArray true) Q f (St w0 F (x :: y :: L)) := CW.reg_held _ h
theorem CW.reg_held3 {id : Nat} {x y z : Asrt} {L : List Asrt} [hm : Mixed P] (h : DW P n ops Q [] (St w0 F (x :: y :: L)) f (St w0 F (x :: y :: z :: L))) : CW P n (.region id ops.toArray true) Q f (St w0 F (x :: y :: z :: L)) := CW.reg_held _ h
theorem CW.reg_held13 {id : Nat} {x y z : Asrt} {L : List Asrt} [hm : Mixed P] (h : DW P n ops Q [] (St w0 F (y :: L)) f (St w0 F (x :: y :: z :: L))) : CW P n (.region id ops.toArray true) Q f (St w0 F (x :: y :: z :: L)) := CW.reg_held _ h
theorem CW.reg_held4 {id : Nat} {x y z u : Asrt} {L : List Asrt} [hm : Mixed P] (h : DW P n ops Q [] (St w0 F (x :: y :: z :: L)) f (St w0 F (x :: y :: z :: u :: L))) : CW P n (.region id ops.toArray true) Q f (St w0 F (x :: y :: z :: u :: L)) := CW.reg_held _ h
theorem St.pair {w : World} {x y : Asrt} {R : List Asrt} (h : St w0 F (x :: y :: R) w) : St w0 F [x, y] w := h.sub (((List.nil_sublist R).cons_cons y).cons_cons x)
theorem St.nilsl {w : World} {L : List Asrt} (E sz : Nat) (h : St w0 F L w) : St w0 F (osl (.slice none 0 0) E sz 0 [] :: L) w := h.newSl ⟨Grew.refl _, World.ownsRow_nil _ _ _ _⟩
theorem St.two {w w' : World} {L L' R : List Asrt} {a a' b : Asrt} (h : St w0 F L w) (st : St w a.foot (a' :: b :: R) w') (he : a.excl = true) (he' : a'.excl = true) (hb : b.excl = true) (hs : Sel L a a' L') : St w0 F (b :: L') w' := h.did1 hs he he' hb st
theorem St.one' {w w' : World} {L L' : List Asrt} {a a' : Asrt} (h : St w0 F L w) (st : Step a a' w w') (he : a.excl = true) (hd : a'.dep) (hs : Sel L a a' L') : St w0 F L' w' := h.did hs he st hd
end
end Go.Hb

namespace Go.Hb
section
variable {α : Type} {f : α → List Value} {n : Nat}
theorem rows_get (hf : ∀ x, (f x).length = n) : ∀ (l : List α) (i j : Nat) (v : Value) (h : i < l.length), (f l[i])[j]? = some v → (l.flatMap f)[i * n + j]? = some v
  | x :: r, 0, j, v, h, hj => by
    have hlt : j < (f x).length := (List.getElem?_eq_some_iff.1 hj).1
    rw [List.flatMap_cons, Nat.zero_mul, Nat.zero_add, List.getElem?_append_left hlt]
    exact hj
  | x :: r, i + 1, j, v, h, hj => by
    have ih := rows_get hf r i j v (by simpa using h) hj
    rw [List.flatMap_cons, List.getElem?_append_right (by rw [hf]; rw [Nat.add_mul]; omega), hf, show (i + 1) * n + j - n = i * n + j by rw [Nat.add_mul]; omega]
    exact ih
theorem rows_len (hf : ∀ x, (f x).length = n) : ∀ (l : List α), (l.flatMap f).length = l.length * n
  | [] => by simp
  | x :: r => by rw [List.flatMap_cons, List.length_append, hf, rows_len hf r, List.length_cons, Nat.add_mul]; omega
theorem rd_row (hf : ∀ x, (f x).length = n) {w : World} {b o : Nat} {l : List α} (h : Rd w (some ⟨b, o, none⟩) (l.flatMap f)) {i q : Nat} (hi : i < l.length) (hq : q = i * n) : ∀ j v, (f l[i])[j]? = some v → w.cell? ((⟨b, o + q, none⟩ : Addr).add j) = some v := by
  intro j v hj
  subst hq
  rw [addr_add, Nat.add_assoc]
  exact h.cell (rows_get hf l i j v hi hj)
theorem row_cell (hf : ∀ x, (f x).length = n) {w : World} {b o q i : Nat} {l : List α} {v : Value} (h : Rd w (some ⟨b, o, none⟩) (l.flatMap f)) (hi : i < l.length) (j : Nat) (hj : (f l[i])[j]? = some v) (hq : q = o + i * n + j) : w.cell? ⟨b, q, none⟩ = some v := by
  subst hq
  rw [Nat.add_assoc]
  exact h.cell (rows_get hf l i j v hi hj)
theorem rows_ne (hf : ∀ x, (f x).length = n) (hn : 0 < n) {l : List α} {i : Nat} (h : i < l.length) : l.flatMap f ≠ [] := fun e => by
  have := rows_len hf l
  rw [e] at this
  have h2 : 1 * n ≤ l.length * n := Nat.mul_le_mul_right _ (by omega)
  simp only [List.length_nil] at this
  omega
theorem rows_of {R : α → Prop} : ∀ (css : List (List Value)), (∀ c ∈ css, ∃ x, c = f x ∧ R x) → ∃ l : List α, css.flatten = l.flatMap f ∧ l.length = css.length ∧ ∀ x ∈ l, R x
  | [], _ => ⟨[], rfl, rfl, fun p hp => by simp at hp⟩
  | c :: r, h => by
    obtain ⟨x, rfl, hp⟩ := h c List.mem_cons_self
    obtain ⟨l, h1, h2, h3⟩ := rows_of r fun c hc => h c (List.mem_cons_of_mem _ hc)
    refine ⟨x :: l, by rw [List.flatten_cons, h1]; rfl, by simp [h2], fun q hq => ?_⟩
    rcases List.mem_cons.1 hq with rfl | hq
    · exact hp
    · exact h3 q hq
end
section
variable {w0 w : World} {L : List Asrt} {x : Asrt} {a : Option Addr} {xs : List Value}
/-- What could be read at the start can be read still. -/
theorem St.oldRd (h : St w0 NoF L w) (hr : Rd w0 a xs) : Rd w a xs :=
  Rd.dep a xs w0 w (fun k hk => h.keep k (hr.live k hk) (fun hf => hf)) hr
theorem St.oldRdF {F : Nat → Prop} (h : St w0 F L w) (hr : Rd w0 a xs) (hF : ∀ k, rdFoot a xs k → ¬ F k) : Rd w a xs :=
  Rd.dep a xs w0 w (fun k hk => h.keep k (hr.live k hk) (hF k hk)) hr
theorem St.oldApart (h : St w0 NoF L w) (hx : x ∈ L) (he : x.excl = true) (hr : Rd w0 a xs) : ∀ y, rdFoot a xs y → ¬ x.foot y := fun y hy hf => h.mine x hx he y hf (hr.live y hy)
theorem DW.castL {P : Program} {n : Nat} {ops : List Oper} {Q : Post} {done : List Nat} {S : World → Prop} {f : Frm} {w0 : World} {F : Nat → Prop} {L L' : List Asrt} (e : L = L') (h : DW P n ops Q done S f (St w0 F L')) : DW P n ops Q done S f (St w0 F L) := e ▸ h
end
end Go.Hb

namespace Go.Hb
section
variable {α : Type} {f : α → Asrt} {w0 w : World} {F : Nat → Prop} {R : List Asrt} {x : α} {l : List α}
def bunF (f : α → Asrt) (l : List α) : Nat → Prop := fun k => ∃ x ∈ l, (f x).foot k
def bun (f : α → Asrt) (l : List α) : Asrt := .ex (bunF f l) (fun w => (∀ x ∈ l, (f x).holds w) ∧ (l.Pairwise fun x y => ∀ k, (f x).foot k → ¬ (f y).foot k) ∧ ∀ k, bunF f l k → k < w.heap.size)
theorem bun_dep (hd : ∀ x, (f x).dep) (l : List α) : (bun f l).dep := by
  intro w w' hk ⟨h1, h2, h3⟩
  refine ⟨fun x hx => hd x w w' (fun k hf => hk k ⟨x, hx, hf⟩) (h1 x hx), h2, fun k hf => lt_of_same (hk k hf) (h3 k hf)⟩
theorem St.bun_nil (hd : ∀ x, (f x).dep) (h : St w0 F R w) : St w0 F (bun f [] :: R) w :=
  h.push (Grew.refl w) ⟨fun _ h => (by cases h), List.Pairwise.nil, fun k ⟨_, hx, _⟩ => (by cases hx)⟩ (fun k ⟨_, hx, _⟩ => (by cases hx)) (bun_dep hd [])
theorem St.bun_snoc (hd : ∀ x, (f x).dep) (he : ∀ x, (f x).excl = true) (h : St w0 F (f x :: bun f l :: R) w) : St w0 F (bun f (l ++ [x]) :: R) w := by
  have hb : (bun f l).holds w := h.g1
  obtain ⟨b1, b2, b3⟩ := hb
  have hdis := (List.pairwise_cons.1 h.dis).1 (bun f l) (by simp) (by simp [he])
  refine h.merge (he x) rfl ⟨?_, ?_, ?_⟩ ?_ (bun_dep hd _)
  · intro y hy
    rcases List.mem_append.1 hy with hy | hy
    · exact b1 y hy
    · have : y = x := by simpa using hy
      subst this; exact h.g0
  · refine List.pairwise_append.2 ⟨b2, List.pairwise_singleton _ _, fun a ha b hb k hk hk2 => ?_⟩
    have : b = x := by simpa using hb
    subst this
    exact hdis k hk2 ⟨a, ha, hk⟩
  · rintro k ⟨y, hy, hk⟩
    rcases List.mem_append.1 hy with hy | hy
    · exact b3 k ⟨y, hy, hk⟩
    · have : y = x := by simpa using hy
      subst this; exact h.live _ (mH _ _) k hk
  · rintro k ⟨y, hy, hk⟩
    rcases List.mem_append.1 hy with hy | hy
    · exact .inr ⟨y, hy, hk⟩
    · have : y = x := by simpa using hy
      subst this; exact .inl hk
theorem St.bun_head (hd : ∀ x, (f x).dep) (h : St w0 F (bun f (x :: l) :: R) w) : St w0 F (f x :: bun f l :: R) w := by
  have hb : (bun f (x :: l)).holds w := h.g0
  obtain ⟨b1, b2, b3⟩ := hb
  obtain ⟨b4, b5⟩ := List.pairwise_cons.1 b2
  refine h.split rfl (b1 x List.mem_cons_self) ⟨fun y hy => b1 y (List.mem_cons_of_mem _ hy), b5, fun k ⟨y, hy, hk⟩ => b3 k ⟨y, List.mem_cons_of_mem _ hy, hk⟩⟩ (fun k hk => ⟨x, List.mem_cons_self, hk⟩) (fun k ⟨y, hy, hk⟩ => ⟨y, List.mem_cons_of_mem _ hy, hk⟩) (fun k hk ⟨y, hy, hk2⟩ => b4 y hy k hk hk2) (hd x) (bun_dep hd l)
end
end Go.Hb

namespace Go.Hb
section
variable {P : Program} {md : Region.Mode} {ops : Array Oper} {Q Q' : Exit → Act → World → Prop} {z : Nat}
theorem oper_only (hN : ∀ e a w, Q' e a w → e = .normal) {o : Oper} {a : Act} {w : World} {K K' : Act → World → Prop} (hk : ∀ a w, K a w → K' a w) (h : o.wp P a w K Q') : o.wp P a w K' Q := by
  unfold Oper.wp at *
  generalize (execOp a.eval o).run P w = r at *
  cases r with
  | ok nx w' =>
    cases nx <;> simp only [Oper.upon] at h ⊢
    case value => exact hk _ _ h
    case skip => exact hk _ _ h
    case defer => exact hk _ _ h
    case enter g args =>
      refine Calls.mono h fun e w'' he => ?_
      cases e with
      | returned u => exact hk _ _ he
      | panicked c => cases hN _ _ _ he
      | outgrown => obtain ⟨_, _, he⟩ := he; cases hN _ _ _ he
    case row => exact Rows.mono h (fun _ _ he => hk _ _ he)
  | halt x w' =>
    cases x <;> simp only [Oper.upon] at h ⊢
    case panic => cases hN _ _ _ h
theorem wpOp_only (hN : ∀ e a w, Q' e a w → e = .normal) {i : Nat} {a : Act} {w : World} {K K' : Act → World → Prop} (hk : ∀ a w, K a w → K' a w) (h : wpOp P ops Q' i K a w) : wpOp P ops Q i K' a w := by
  unfold wpOp at *
  cases ho : ops[i]? with
  | none => simp only [ho] at h; exact hk _ _ h
  | some o =>
    simp only [ho] at h ⊢
    split
    · rename_i hw
      rw [if_pos hw] at h
      rcases h with h | ⟨_, a', w', he⟩
      · exact .inl (oper_only hN hk h)
      · cases hN _ _ _ he
    · rename_i hw
      rw [if_neg hw] at h
      exact hk _ _ h
/-- Every other operation is waited for, and nothing waits for z: so z comes last. -/
structure Sink (md : Region.Mode) (ops : Array Oper) (z : Nat) : Prop where
  deps : ∀ (j : Nat) (o : Oper), ops[j]? = some o → ∀ e ∈ o.after, Region.binds md e = true → e.on ≠ z ∧ e.on < j
  all : ∀ i, i < ops.size → i ≠ z → ∃ (j : Nat) (o : Oper), ops[j]? = some o ∧ ∃ e ∈ o.after, Region.binds md e = true ∧ e.on = i
  lt : z < ops.size
theorem getD_tf {listed : Array Bool} {i : Nat} (h : listed.getD i false = true) : listed.getD i true = true := by
  rcases Nat.lt_or_ge i listed.size with h' | h'
  · simp [h'] at h ⊢; exact h
  · simp [Array.getElem?_eq_none h'] at h
theorem getD_set_self {listed : Array Bool} {i : Nat} (h : i < listed.size) : (listed.setIfInBounds i true).getD i true = true := by simp [h]
def Closed (md : Region.Mode) (ops : Array Oper) (z : Nat) (listed : Array Bool) : Prop := ∀ (j : Nat) (o : Oper), ops[j]? = some o → j ≠ z → listed.getD j false = true → ∀ e ∈ o.after, Region.binds md e = true → listed.getD e.on false = true
theorem Sink.before (hs : Sink md ops z) {listed : Array Bool} (hc : Closed md ops z listed) (hz : z ∈ Region.ready md ops listed) : ∀ d k, ops.size - k ≤ d → k < ops.size → k ≠ z → listed.getD k false = true := by
  intro d
  induction d with
  | zero => intro k hd hk; omega
  | succ d ih =>
    intro k hd hk hkz
    obtain ⟨j, o, ho, e, he, hb, rfl⟩ := hs.all k hk hkz
    have hj : j < ops.size := (Array.getElem?_eq_some_iff.1 ho).1
    have hlt := (hs.deps j o ho e he hb).2
    by_cases hjz : j = z
    · subst hjz
      obtain ⟨_, o', ho', hd'⟩ := mem_ready.1 hz
      rw [ho] at ho'; cases ho'
      exact hd' e he hb
    · exact hc j o ho hjz (ih j (by omega) hj hjz) e he hb
theorem any_ready (hs : Sink md ops z) {listed : Array Bool} : ∀ i, i ≠ z → (i ∈ Region.ready md ops listed ↔ i ∈ Region.ready md ops (listed.setIfInBounds z true)) := by
  intro i hi
  rw [mem_ready, mem_ready]
  constructor
  · rintro ⟨h1, o, ho, h2⟩
    exact ⟨by rw [getD_set_ne true (Ne.symm hi)]; exact h1, o, ho, fun e he hb => getD_set_true (h2 e he hb)⟩
  · rintro ⟨h1, o, ho, h2⟩
    refine ⟨by rw [getD_set_ne true (Ne.symm hi)] at h1; exact h1, o, ho, fun e he hb => ?_⟩
    have := h2 e he hb
    rwa [getD_set_ne false (Ne.symm (hs.deps i o ho e he hb).1)] at this
theorem any_sink_end (hs : Sink md ops z) (hN : ∀ e a w, Q' e a w → e = .normal) (hK : ∀ a w, Q' .normal a w → wpOp P ops Q z (Q .normal) a w) {listed : Array Bool} {a : Act} {w : World} (hsz : listed.size = ops.size) (hlz : listed.getD z true = false)
    (hr : Region.ready md ops (listed.setIfInBounds z true) = []) (hq : Q' .normal a w) (fuel : Nat) : wpAny P md ops Q (fuel + 1) listed a w := by
  have hR := any_ready hs (listed := listed)
  have hall : ∀ k i, i < k → i < ops.size → i ≠ z → listed.getD i false = true := by
    intro k
    induction k with
    | zero => intro i hi; omega
    | succ k ih =>
      intro i hik hi hiz
      cases hx : listed.getD i false with
      | true => rfl
      | false =>
        have : i ∈ Region.ready md ops (listed.setIfInBounds z true) := by
          rw [← hR i hiz, mem_ready]
          have hi' : i < listed.size := hsz ▸ hi
          refine ⟨by simp [hi'] at hx ⊢; exact hx, ops[i], by simp [hi], fun e he hb => ?_⟩
          have hd := hs.deps i ops[i] (by simp [hi]) e he hb
          exact ih e.on (by omega) (by omega) hd.1
        rw [hr] at this; cases this
  have hz : z ∈ Region.ready md ops listed := by
    rw [mem_ready]
    refine ⟨hlz, ops[z]'hs.lt, by simp [hs.lt], fun e he hb => ?_⟩
    have hd := hs.deps z (ops[z]'hs.lt) (by simp [hs.lt]) e he hb
    exact hall ops.size e.on (by have := hs.lt; omega) (by have := hs.lt; omega) hd.1
  refine ⟨fun h0 => (by rw [h0] at hz; cases hz), fun i hi => ?_⟩
  have hiz : i = z := Classical.byContradiction fun hne => by
    have := (hR i hne).1 hi
    rw [hr] at this; cases this
  subst hiz
  refine wpOp_mono (fun a' w' hq' => ?_) (hK a w hq)
  cases fuel with
  | zero => exact ⟨hr, hq'⟩
  | succ f => exact ⟨fun _ => hq', by rw [hr]; simp⟩
theorem any_sink (hs : Sink md ops z) (hN : ∀ e a w, Q' e a w → e = .normal) (hK : ∀ a w, Q' .normal a w → wpOp P ops Q z (Q .normal) a w) : ∀ (fuel : Nat) (listed : Array Bool) (a : Act) (w : World), listed.size = ops.size → listed.getD z true = false → Closed md ops z listed →
    wpAny P md ops Q' fuel (listed.setIfInBounds z true) a w → wpAny P md ops Q (fuel + 1) listed a w := by
  intro fuel
  induction fuel with
  | zero =>
    intro listed a w hsz hlz hcl h
    exact any_sink_end hs hN hK hsz hlz h.1 h.2 0
  | succ fuel ih =>
    intro listed a w hsz hlz hcl h
    by_cases hr : Region.ready md ops (listed.setIfInBounds z true) = []
    · exact any_sink_end hs hN hK hsz hlz hr (h.1 hr) _
    · obtain ⟨j, hj⟩ := List.exists_mem_of_ne_nil _ hr
      have hjz : j ≠ z := by
        rintro rfl
        have := (mem_ready.1 hj).1
        rw [getD_set_self (hsz ▸ hs.lt)] at this
        cases this
      have hR := any_ready hs (listed := listed)
      refine ⟨fun h0 => ?_, fun i hi => ?_⟩
      · have := (hR j hjz).2 hj
        rw [h0] at this; cases this
      · have hiz : i ≠ z := by
          rintro rfl
          obtain ⟨hj1, oj, hoj, _⟩ := mem_ready.1 hj
          have hjlt : j < ops.size := (Array.getElem?_eq_some_iff.1 hoj).1
          have := getD_tf (hs.before hcl hi ops.size j (by omega) hjlt hjz)
          rw [getD_set_ne true (Ne.symm hjz)] at hj1
          rw [this] at hj1; cases hj1
        have hcl2 : Closed md ops z (listed.setIfInBounds i true) := by
          intro j o ho hjz hj e he hb
          by_cases hji : j = i
          · subst hji
            obtain ⟨_, o', ho', hd'⟩ := mem_ready.1 hi
            rw [ho] at ho'; cases ho'
            exact getD_set_true (hd' e he hb)
          · rw [getD_set_ne false (Ne.symm hji)] at hj
            exact getD_set_true (hcl j o ho hjz hj e he hb)
        refine wpOp_only hN (fun a' w' h' => ?_) (h.2 i ((hR i hiz).1 hi))
        refine ih _ a' w' (by simpa using hsz) (by rw [getD_set_ne true hiz]; exact hlz) hcl2 ?_
        have e : (listed.setIfInBounds i true).setIfInBounds z true = (listed.setIfInBounds z true).setIfInBounds i true := by
          exact Array.setIfInBounds_comm true true hiz
        rw [e]; exact h'
def sinkB (ops : List Oper) (z : Nat) : Bool :=
  Nat.blt z ops.length && (List.range ops.length).all fun j => match ops[j]? with
    | some o => (o.after.all fun e => !Region.binds .any e || (!Nat.beq e.on z && Nat.blt e.on j)) && (Nat.beq j z || (List.range ops.length).any fun k => Region.waitsFor .any ops.toArray k j)
    | none => false
theorem sinkB_sound {ops : List Oper} (h : sinkB ops z = true) : Sink .any ops.toArray z := by
  unfold sinkB at h
  simp only [Bool.and_eq_true] at h
  obtain ⟨h1, h2⟩ := h
  have key : ∀ j o, ops[j]? = some o → (∀ e ∈ o.after, Region.binds .any e = true → e.on ≠ z ∧ e.on < j) ∧ (j = z ∨ ∃ k, Region.waitsFor .any ops.toArray k j = true) := by
    intro j o ho
    have hj : j < ops.length := (List.getElem?_eq_some_iff.1 ho).1
    have := List.all_eq_true.1 h2 j (List.mem_range.2 hj)
    rw [ho] at this
    simp only [Bool.and_eq_true, Bool.or_eq_true] at this
    refine ⟨fun e he hb => ?_, this.2.imp Nat.eq_of_beq_eq_true (fun h => by obtain ⟨k, _, hk⟩ := List.any_eq_true.1 h; exact ⟨k, hk⟩)⟩
    have := (Array.all_eq_true_iff_forall_mem.1 this.1) e he
    simp only [hb, Bool.not_true, Bool.false_or, Bool.and_eq_true, Bool.not_eq_true'] at this
    exact ⟨fun e2 => by rw [e2] at this; simp at this, by simpa using this.2⟩
  refine ⟨fun j o ho => (key j o (by simpa using ho)).1, fun i hi hne => ?_, by simpa using h1⟩
  have hi' : i < ops.length := by simpa using hi
  rcases (key i ops[i] (by simp [hi'])).2 with e | e
  · exact (hne e).elim
  · obtain ⟨k, e⟩ := e
    obtain ⟨oj, hoj, e, he, hb, hon⟩ := Region.waitsFor_spec e
    exact ⟨k, oj, hoj, e, he, hb, hon⟩
end
section
variable {P : Program} {n : Nat} {ops : List Oper} {Q : Post} {f : Frm} {C : World → Prop}
def zpost (P : Program) (n : Nat) (ops : List Oper) (oz : Oper) (Q : Post) : Post := fun e f w => e = .normal ∧ LW P n ops [oz] Q f (fun u => u = w)
/-- A drawn region whose operation z waits for all others: these first, with S held among them, then z. -/
theorem CW.reg_sink (z : Nat) {id : Nat} {oz : Oper} (S : World → Prop) [hm : Mixed P] [hc : Drawn C] (hz : ops[z]? = some oz) (hB : sinkB ops z = true) (h : DW P n ops (zpost P n ops oz Q) [z] S f C) : CW P n (.region id ops.toArray true) Q f C := by
  intro w hw a ha
  have h1 := wpAny_of_held _ _ _ _ (h _ (hc.drew w hw) a ha)
  have hs := sinkB_sound hB
  have hlt : z < ops.length := by simpa using hs.lt
  refine wp_region_any hm.mixed ?_
  have h2 := any_sink (Q' := lift n (only fun f w => zpost P n ops oz Q .normal f w)) (Q := lift n Q) hs (fun e a w ⟨_, _, he, _⟩ => he) (fun a w ⟨f, hf, _, _, hl⟩ => by
    have h3 := hl w rfl a hf
    have ho : ops.toArray[z]? = some oz := by simpa using hz
    unfold wpOp
    simp only [ho]
    simp only [wpList] at h3
    exact h3) (ops.length - 1) (Array.replicate ops.length false) a _ (by simp) (by simp [hlt]) (fun j o ho _ hj => by
      have hj' : j < ops.length := by simpa using (Array.getElem?_eq_some_iff.1 ho).1
      simp [hj'] at hj) (by simpa [lst] using h1)
  have e : ops.toArray.size = ops.length - 1 + 1 := by simp; omega
  rw [e]
  have e2 : (Array.replicate (ops.length - 1 + 1) false) = Array.replicate ops.length false := by congr 1; omega
  rw [e2]
  exact h2
theorem CW.reg_sinkC (z : Nat) {id : Nat} {oz : Oper} [hm : Mixed P] [hc : Drawn C] (hz : ops[z]? = some oz) (hB : sinkB ops z = true) (h : DW P n ops (zpost P n ops oz Q) [z] C f C) : CW P n (.region id ops.toArray true) Q f C := CW.reg_sink z C hz hB h
theorem At.sink {oz : Oper} (h : LR false P n ops [oz] Q f C) : At (zpost P n ops oz Q) .normal f C := fun w hw => ⟨rfl, fun u e => e ▸ h w hw⟩
end
end Go.Hb

namespace Go.Proofs.Ytomlgnncncjmaaa
open Go.Hb
attribute [local irreducible] LR CW At Ev thn blk finK noG again CallsTo DW QL dnext TW DP
set_option linter.unusedSimpArgs false
set_option linter.unusedVariables false
set_option maxRecDepth 100000

set_option maxHeartbeats 4000000 in
theorem c34 (i : Int) (w : World) : CallsTo Try.prog 34 [.int .i64 i] w fun v w' => ∃ m a c, v = Msg.val m a c ∧ NewSl w w' (.slice a m.body.length c) 5 1 m.body.length (bv m.body) ∧ Byt m.body ∧ m.body.length ≤ 1000 := by
  refine go_in (n := 100) (St.refl _ NoF) Try.func34 rfl rfl ?_
  have b65 : Byt [65] := by intro b hb; simp at hb; omega
  have b0 : Byt [0] := by intro b hb; simp at hb; omega
  have bz : Byt (List.replicate 48 0) := by intro b hb; have := List.eq_of_mem_replicate hb; omega
  have bn : Byt [] := by intro b hb; cases hb
  have hmk : (List.replicate 48 [Value.int .u8 0]).flatten = bv (List.replicate 48 0) := by rfl
  repeat'(first|(apply kp;iterate 2 exact rfl)|apply jJ|(apply jE;exact rfl)|(apply jp;exact rfl)|(apply jc;kernel_rfl)|((first|apply kf|apply kn|apply ke|apply kx|apply kc|apply kb);iterate 2 exact rfl)|((first|apply kz|apply ky);(·exact rfl);(·repeat(first|exact iO|exact iR rfl|apply iT));iterate 2 exact rfl)|(apply kg;iterate 2 exact rfl)|(apply kG;iterate 3 exact rfl)|(apply kB;(iterate 2 exact rfl);intro _)|(apply kA;exact rfl;intro _)|(apply kK;(iterate 4 exact rfl);intro _)|(apply kU;(iterate 2 exact rfl);(·repeat(first|exact sH _ _ _|apply sT));(first|exact nfL_eq rfl|exact rfl);exact rfl)|((first|apply kh|apply kl);(iterate 2 exact rfl);(first|decide|omega);exact rfl)|(apply LR.call; (· exact rfl); (intro w1 h1; refine (c37 w1).mono ?_; rintro v w2 ⟨a1, c1, rfl, hn⟩; refine LR.back (h1.newSl hn) ?_; clear h1 hn))|(apply kq; (· exact rfl); (· intro w1 h1; exact CallsTo.q (c36 w1) h1))|(apply LR.makeSlice (m := 48) (cs := [.int .u8 0]); (· exact rfl); (· exact rfl); (· omega); (· omega); (· exact rfl); (· exact rfl); intro bs)|(apply LR.makeSlice (m := 49) (cs := [.int .u8 0]); (· exact rfl); (· exact rfl); (· omega); (· omega); (· exact rfl); (· exact rfl); intro bs)|(apply LR.makeSlice (m := 161) (cs := [.int .u8 0]); (· exact rfl); (· exact rfl); (· omega); (· omega); (· exact rfl); (· exact rfl); intro bs)|((first|(apply kR;iterate 2 exact rfl)|(apply kQ;exact rfl));all_goals(intro hc;try simp only[hcs]at hc;try(exfalso;first|contradiction|omega))))
  all_goals (
    (apply ret1c; (· exact rfl); (· exact inferInstance); (· exact rfl); (· (repeat (first | exact List.Mem.head _ | apply List.Mem.tail))); (· exact rfl); intro w' hS)
    (try dsimp only at hS ⊢)
    first
      | exact ⟨⟨_, _, _, _, _, _, _, _, _, _, _, _, [65]⟩, a1, c1, rfl, hS.toNew (by (repeat (first | exact mH _ _ | apply mT))), b65, (show ([65] : List Int).length ≤ 1000 from by decide)⟩
      | exact ⟨⟨_, _, _, _, _, _, _, _, _, _, _, _, []⟩, none, 0, rfl, ⟨hS.toKeep, World.ownsRow_nil _ _ _ _⟩, bn, (show ([] : List Int).length ≤ 1000 from by decide)⟩
      | exact ⟨⟨_, _, _, _, _, _, _, _, _, _, _, _, [0]⟩, _, 1, rfl, (hS.own_osl (k := 1) (sz := 1) (E := 5) (cs := [.int .u8 0]) (by (repeat (first | exact sH _ _ _ | apply sT))) rfl (by unfold maxLen; omega)).toNew (by (repeat (first | exact mH _ _ | apply mT))), b0, (show ([0] : List Int).length ≤ 1000 from by decide)⟩
      | exact ⟨⟨_, _, _, _, _, _, _, _, _, _, _, _, List.replicate 48 0⟩, _, 48, rfl, (hS.own_osl (k := 48) (sz := 1) (E := 5) (cs := (List.replicate 48 [Value.int .u8 0]).flatten) (by (repeat (first | exact sH _ _ _ | apply sT))) rfl (by unfold maxLen; omega)).toNew (by (repeat (first | exact mH _ _ | apply mT))), (fun b hb => by have := List.eq_of_mem_replicate hb; omega), (show (List.replicate 48 (0 : Int)).length ≤ 1000 from by decide)⟩
      | exact ⟨⟨_, _, _, _, _, _, _, _, _, _, _, _, List.replicate 49 0⟩, _, 49, rfl, (hS.own_osl (k := 49) (sz := 1) (E := 5) (cs := (List.replicate 49 [Value.int .u8 0]).flatten) (by (repeat (first | exact sH _ _ _ | apply sT))) rfl (by unfold maxLen; omega)).toNew (by (repeat (first | exact mH _ _ | apply mT))), (fun b hb => by have := List.eq_of_mem_replicate hb; omega), (show (List.replicate 49 (0 : Int)).length ≤ 1000 from by decide)⟩
      | exact ⟨⟨_, _, _, _, _, _, _, _, _, _, _, _, List.replicate 161 0⟩, _, 161, rfl, (hS.own_osl (k := 161) (sz := 1) (E := 5) (cs := (List.replicate 161 [Value.int .u8 0]).flatten) (by (repeat (first | exact sH _ _ _ | apply sT))) rfl (by unfold maxLen; omega)).toNew (by (repeat (first | exact mH _ _ | apply mT))), (fun b hb => by have := List.eq_of_mem_replicate hb; omega), (show (List.replicate 161 (0 : Int)).length ≤ 1000 from by decide)⟩)
end Go.Proofs.Ytomlgnncncjmaaa

namespace Go.Proofs.Ytomlgnncncjmaaa
open Go.Hb
attribute [local irreducible] LR CW At Ev thn blk finK noG again CallsTo DW QL dnext TW DP
set_option linter.unusedSimpArgs false
set_option linter.unusedVariables false
set_option maxRecDepth 100000

theorem old_len (d : Dat) (hm : d.msg.body.length ≤ 140737488355328) : (old d).1.body.length ≤ 140737488355328 := by
  unfold old
  split
  · rename_i h
    have := bytesM_len d.msg
    have h2 := (check_ok h.2.1).1
    show (bytesM d.msg).length ≤ _
    omega
  · simp [zeroMsg]
theorem inner_len (m : Msg) (hm : m.body.length ≤ 140737488355328) : (inner m).1.msg.body.length ≤ 140737488355328 := by
  unfold inner
  split
  · have := unpack_body m.body
    show (unpack m.body).1.body.length ≤ _
    omega
  · simp [zeroDat, zeroMsg]
set_option maxHeartbeats 4000000 in
theorem c35 (d : Dat) (a : Option Addr) (c : Nat) (m : Msg) (b : Option Addr) (e : Nat) (w : World) (hr : Rd w a (bv d.msg.body)) (hz : a = none → c = 0) (hm : d.msg.body.length ≤ 140737488355328) (hb : Byt d.msg.body)
    (hr2 : Rd w b (bv m.body)) (hz2 : b = none → e = 0) (hm2 : m.body.length ≤ 140737488355328) (hb2 : Byt m.body) :
    CallsTo Try.prog 35 [d.val a c, m.val b e] w fun v w' => v = .bool true ∧ Grew w w' := by
  have hol := old_len d hm
  have hil := inner_len m hm2
  refine go_in (n := 66) (St.refl _ NoF) Try.func35 rfl rfl ?_
  repeat'(first|(apply kp;iterate 2 exact rfl)|apply jJ|(apply jE;exact rfl)|(apply jp;exact rfl)|(apply jc;kernel_rfl)|((first|apply kf|apply kn|apply ke|apply kx|apply kc|apply kb);iterate 2 exact rfl)|((first|apply kz|apply ky);(·exact rfl);(·repeat(first|exact iO|exact iR rfl|apply iT));iterate 2 exact rfl)|(apply kg;iterate 2 exact rfl)|(apply kG;iterate 3 exact rfl)|(apply kB;(iterate 2 exact rfl);intro _)|(apply kA;exact rfl;intro _)|(apply kK;(iterate 4 exact rfl);intro _)|(apply kU;(iterate 2 exact rfl);(·repeat(first|exact sH _ _ _|apply sT));(first|exact nfL_eq rfl|exact rfl);exact rfl)|((first|apply kh|apply kl);(iterate 2 exact rfl);(first|decide|omega);exact rfl)|((first|(apply kR;iterate 2 exact rfl)|(apply kQ;exact rfl));all_goals(intro hc;try simp only[hcs]at hc;try(exfalso;first|contradiction|omega))))
  apply LR.call
  · exact rfl
  intro w1 h1
  refine CallsTo.mono (show CallsTo Try.prog 14 _ w1 _ from c14 d.msg a c w1 (h1.oldRd hr) hz hm) ?_
  rintro v w2 ⟨a1, c1, rfl, hn1⟩
  refine LR.back (h1.newSl hn1) ?_
  clear hn1 h1
  repeat'(first|(apply kp;iterate 2 exact rfl)|apply jJ|(apply jE;exact rfl)|(apply jp;exact rfl)|(apply jc;kernel_rfl)|((first|apply kf|apply kn|apply ke|apply kx|apply kc|apply kb);iterate 2 exact rfl)|((first|apply kz|apply ky);(·exact rfl);(·repeat(first|exact iO|exact iR rfl|apply iT));iterate 2 exact rfl)|(apply kg;iterate 2 exact rfl)|(apply kG;iterate 3 exact rfl)|(apply kB;(iterate 2 exact rfl);intro _)|(apply kA;exact rfl;intro _)|(apply kK;(iterate 4 exact rfl);intro _)|(apply kU;(iterate 2 exact rfl);(·repeat(first|exact sH _ _ _|apply sT));(first|exact nfL_eq rfl|exact rfl);exact rfl)|((first|apply kh|apply kl);(iterate 2 exact rfl);(first|decide|omega);exact rfl)|((first|(apply kR;iterate 2 exact rfl)|(apply kQ;exact rfl));all_goals(intro hc;try simp only[hcs]at hc;try(exfalso;first|contradiction|omega))))
  apply LR.call
  · exact rfl
  intro w1 h1
  have hi := h1.holds (osl (.slice a1 d.msg.body.length c1) 5 1 d.msg.body.length (bv d.msg.body)) (by (repeat (first | exact mH _ _ | apply mT)))
  refine CallsTo.mono (show CallsTo Try.prog 32 _ w1 _ from c32 d a1 c1 w1 (ownsRow_rd hi) (fun e => (ownsRow_some hi e).2) hm hb) ?_
  rintro v w2 ⟨a2, c2, rfl, hn1⟩
  refine LR.back (h1.newSl hn1) ?_
  clear hi hn1 h1
  repeat'(first|(apply kp;iterate 2 exact rfl)|apply jJ|(apply jE;exact rfl)|(apply jp;exact rfl)|(apply jc;kernel_rfl)|((first|apply kf|apply kn|apply ke|apply kx|apply kc|apply kb);iterate 2 exact rfl)|((first|apply kz|apply ky);(·exact rfl);(·repeat(first|exact iO|exact iR rfl|apply iT));iterate 2 exact rfl)|(apply kg;iterate 2 exact rfl)|(apply kG;iterate 3 exact rfl)|(apply kB;(iterate 2 exact rfl);intro _)|(apply kA;exact rfl;intro _)|(apply kK;(iterate 4 exact rfl);intro _)|(apply kU;(iterate 2 exact rfl);(·repeat(first|exact sH _ _ _|apply sT));(first|exact nfL_eq rfl|exact rfl);exact rfl)|((first|apply kh|apply kl);(iterate 2 exact rfl);(first|decide|omega);exact rfl)|((first|(apply kR;iterate 2 exact rfl)|(apply kQ;exact rfl));all_goals(intro hc;try simp only[hcs]at hc;try(exfalso;first|contradiction|omega))))
  apply LR.call
  · exact rfl
  intro w1 h1
  refine CallsTo.mono (show CallsTo Try.prog 82 _ w1 _ from c82 d a c w1 (h1.oldRd hr) hz hm hb) ?_
  rintro v w2 ⟨a3, c3, rfl, hn1⟩
  refine LR.back (h1.newSl hn1) ?_
  clear hn1 h1
  repeat'(first|(apply kp;iterate 2 exact rfl)|apply jJ|(apply jE;exact rfl)|(apply jp;exact rfl)|(apply jc;kernel_rfl)|((first|apply kf|apply kn|apply ke|apply kx|apply kc|apply kb);iterate 2 exact rfl)|((first|apply kz|apply ky);(·exact rfl);(·repeat(first|exact iO|exact iR rfl|apply iT));iterate 2 exact rfl)|(apply kg;iterate 2 exact rfl)|(apply kG;iterate 3 exact rfl)|(apply kB;(iterate 2 exact rfl);intro _)|(apply kA;exact rfl;intro _)|(apply kK;(iterate 4 exact rfl);intro _)|(apply kU;(iterate 2 exact rfl);(·repeat(first|exact sH _ _ _|apply sT));(first|exact nfL_eq rfl|exact rfl);exact rfl)|((first|apply kh|apply kl);(iterate 2 exact rfl);(first|decide|omega);exact rfl)|((first|(apply kR;iterate 2 exact rfl)|(apply kQ;exact rfl));all_goals(intro hc;try simp only[hcs]at hc;try(exfalso;first|contradiction|omega))))
  apply LR.call
  · exact rfl
  intro w1 h1
  refine CallsTo.mono (show CallsTo Try.prog 14 _ w1 _ from c14 m b e w1 (h1.oldRd hr2) hz2 hm2) ?_
  rintro v w2 ⟨a4, c4, rfl, hn1⟩
  refine LR.back (h1.newSl hn1) ?_
  clear hn1 h1
  repeat'(first|(apply kp;iterate 2 exact rfl)|apply jJ|(apply jE;exact rfl)|(apply jp;exact rfl)|(apply jc;kernel_rfl)|((first|apply kf|apply kn|apply ke|apply kx|apply kc|apply kb);iterate 2 exact rfl)|((first|apply kz|apply ky);(·exact rfl);(·repeat(first|exact iO|exact iR rfl|apply iT));iterate 2 exact rfl)|(apply kg;iterate 2 exact rfl)|(apply kG;iterate 3 exact rfl)|(apply kB;(iterate 2 exact rfl);intro _)|(apply kA;exact rfl;intro _)|(apply kK;(iterate 4 exact rfl);intro _)|(apply kU;(iterate 2 exact rfl);(·repeat(first|exact sH _ _ _|apply sT));(first|exact nfL_eq rfl|exact rfl);exact rfl)|((first|apply kh|apply kl);(iterate 2 exact rfl);(first|decide|omega);exact rfl)|((first|(apply kR;iterate 2 exact rfl)|(apply kQ;exact rfl));all_goals(intro hc;try simp only[hcs]at hc;try(exfalso;first|contradiction|omega))))
  apply LR.call
  · exact rfl
  intro w1 h1
  have hi := h1.holds (osl (.slice a4 m.body.length c4) 5 1 m.body.length (bv m.body)) (by (repeat (first | exact mH _ _ | apply mT)))
  refine CallsTo.mono (show CallsTo Try.prog 33 _ w1 _ from c33 m a4 c4 w1 (ownsRow_rd hi) (fun e => (ownsRow_some hi e).2) hm2 hb2) ?_
  rintro v w2 ⟨a5, c5, rfl, hn1⟩
  refine LR.back (h1.newSl hn1) ?_
  clear hi hn1 h1
  repeat'(first|(apply kp;iterate 2 exact rfl)|apply jJ|(apply jE;exact rfl)|(apply jp;exact rfl)|(apply jc;kernel_rfl)|((first|apply kf|apply kn|apply ke|apply kx|apply kc|apply kb);iterate 2 exact rfl)|((first|apply kz|apply ky);(·exact rfl);(·repeat(first|exact iO|exact iR rfl|apply iT));iterate 2 exact rfl)|(apply kg;iterate 2 exact rfl)|(apply kG;iterate 3 exact rfl)|(apply kB;(iterate 2 exact rfl);intro _)|(apply kA;exact rfl;intro _)|(apply kK;(iterate 4 exact rfl);intro _)|(apply kU;(iterate 2 exact rfl);(·repeat(first|exact sH _ _ _|apply sT));(first|exact nfL_eq rfl|exact rfl);exact rfl)|((first|apply kh|apply kl);(iterate 2 exact rfl);(first|decide|omega);exact rfl)|((first|(apply kR;iterate 2 exact rfl)|(apply kQ;exact rfl));all_goals(intro hc;try simp only[hcs]at hc;try(exfalso;first|contradiction|omega))))
  apply LR.call
  · exact rfl
  intro w1 h1
  refine CallsTo.mono (show CallsTo Try.prog 83 _ w1 _ from c83 m b e w1 (h1.oldRd hr2) hz2 hm2 hb2) ?_
  rintro v w2 ⟨a6, c6, rfl, hn1⟩
  refine LR.back (h1.newSl hn1) ?_
  clear hn1 h1
  repeat'(first|(apply kp;iterate 2 exact rfl)|apply jJ|(apply jE;exact rfl)|(apply jp;exact rfl)|(apply jc;kernel_rfl)|((first|apply kf|apply kn|apply ke|apply kx|apply kc|apply kb);iterate 2 exact rfl)|((first|apply kz|apply ky);(·exact rfl);(·repeat(first|exact iO|exact iR rfl|apply iT));iterate 2 exact rfl)|(apply kg;iterate 2 exact rfl)|(apply kG;iterate 3 exact rfl)|(apply kB;(iterate 2 exact rfl);intro _)|(apply kA;exact rfl;intro _)|(apply kK;(iterate 4 exact rfl);intro _)|(apply kU;(iterate 2 exact rfl);(·repeat(first|exact sH _ _ _|apply sT));(first|exact nfL_eq rfl|exact rfl);exact rfl)|((first|apply kh|apply kl);(iterate 2 exact rfl);(first|decide|omega);exact rfl)|(apply kq; (· exact rfl); (· intro w1 h1; first | (have hq := CallsTo.q (c20 (old d).1 (old d).1 a2 a3 c2 c3 w1 (h1.rd_of_own (by (repeat (first | exact mH _ _ | apply mT)))) (h1.rd_of_own (by (repeat (first | exact mH _ _ | apply mT)))) hol) h1; rw [sameB_self] at hq; show CallsTo Try.prog 20 [(old d).1.val a2 c2, (old d).1.val a3 c3] w1 _; exact hq) | (have hq := CallsTo.q (c84 (inner m).1 (inner m).1 a5 a6 c5 c6 w1 (h1.rd_of_own (by (repeat (first | exact mH _ _ | apply mT)))) (h1.rd_of_own (by (repeat (first | exact mH _ _ | apply mT)))) hil) h1; rw [sameD_self] at hq; show CallsTo Try.prog 84 [(inner m).1.val a5 c5, (inner m).1.val a6 c6] w1 _; exact hq) | (have hq := CallsTo.q (c84 d d a1 a c1 c w1 (h1.rd_of_own (by (repeat (first | exact mH _ _ | apply mT)))) (h1.oldRd hr) hm) h1; rw [sameD_self] at hq; show CallsTo Try.prog 84 [d.val a1 c1, d.val a c] w1 _; exact hq) | exact CallsTo.q (c21 w1) h1))|((first|(apply kR;iterate 2 exact rfl)|(apply kQ;exact rfl));all_goals(intro hc;try simp only[hcs]at hc;try(exfalso;first|contradiction|omega))))
  (apply ret1; (· exact rfl); intro w' hS)
  exact ⟨rfl, hS.toKeep⟩
end Go.Proofs.Ytomlgnncncjmaaa
