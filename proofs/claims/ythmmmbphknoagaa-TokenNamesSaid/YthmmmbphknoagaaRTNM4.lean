/-
  The law TokenNames holds, as its row says it: the numbers and examples of the chapter on tokens. Conditions: none.
-/
import Derived.Test.YthmmmbphknoagaaRTNM3
import Derived.Lib.SliceRun

namespace Go.Proofs.Ythmmmbphknoagaa
open Go.Hb
attribute [local irreducible] LR CW At Ev thn blk finK noG again CallsTo DW QL dnext
set_option linter.unusedSimpArgs false
set_option linter.unusedVariables false
set_option maxRecDepth 100000

theorem st_odl1 {b o i q n c : Nat} {x : Int} {l : List Int} (hq : q = o + i) (h : i < l.length) : Stores Try.prog 3 ⟨b, q, none⟩ (.int .i64 x) (odl (.slice (some ⟨b, o, none⟩) n c) 3 1 n (iv l)) (odl (.slice (some ⟨b, o, none⟩) n c) 3 1 n (iv (l.set i x))) := by
  subst hq
  have := Stores.odl (P := Try.prog) (T := 3) (b := b) (o := o) (i := i) (n := n) (c := c) (v := .int .i64 x) (vs := [.int .i64 x]) (xs := iv l) (E := 3) (sz := 1) (q := 1) inferInstance rfl rfl rfl (by simp [iv]; omega)
  rwa [splice_one1 _ _ _ (by simpa using h), iv_set] at this
set_option maxHeartbeats 4000000 in
theorem t3 (t : Tk) (a : Option Addr) (c : Nat) (v : Vst) (ag : Option Addr) (cg : Nat) (w : World) (hr : Rd w a (iv t.ask)) (hz : a = none → c = 0) (hm : t.ask.length ≤ 17592186043904) (hrg : Rd w ag (iv v.gaps)) (hzg : ag = none → cg = 0) (hmg : v.gaps.length ≤ 17592186043904) :
    CallsTo Try.prog 3 [t.val a c, v.val ag cg] w fun u w' => u = .bool true ∧ Grew w w' := by
  refine go_in (n := 77) (St.rd2 hr hrg) Try.func3 rfl rfl ?_
  have hV : ∃ R, R = visitT t v.node v.aru v.gaps := ⟨_, rfl⟩
  obtain ⟨R, hR⟩ := hV
  have h14 := fun ai ci ag2 cg2 w1 => t14 t ai ci v.node v.aru ag2 cg2 v.gaps w1
  have h15 := fun w1 => t15 t a c v.node v.aru ag cg v.gaps w1
  rw [← hR] at h14 h15
  repeat'(first|(apply kB;(iterate 2 exact rfl);intro _)|(apply CW.reg_heldC)|(apply kp;iterate 2 exact rfl)|apply jJ|(apply jE;exact rfl)|(apply jp;exact rfl)|(apply jc;kernel_rfl)|((first|apply kf|apply kn|apply ke|apply kx|apply kc|apply kb);iterate 2 exact rfl)|((first|apply kz|apply ky);(·exact rfl);(·repeat(first|exact iO|exact iR rfl|apply iT));iterate 2 exact rfl)|(apply kg;iterate 2 exact rfl)|(apply kG;iterate 3 exact rfl)|(apply kB;(iterate 2 exact rfl);intro _)|(apply kA;exact rfl;intro _)|(apply Go.Hb.kK;(iterate 4 exact rfl);intro _)|(apply kU;(iterate 2 exact rfl);(·repeat(first|exact sH _ _ _|apply sT));(first|exact nfL_eq rfl|exact rfl);exact rfl)|((first|apply kh|apply kl);(iterate 2 exact rfl);(first|decide|omega);exact rfl)|(apply LR.call; (· exact rfl); (intro w1 h1; first | (refine (t12 t a c w1 (h1.rd_of (by (repeat (first | exact mH _ _ | apply mT)))) hz hm).mono ?_; rintro v w2 ⟨a1, c1, rfl, hn⟩; have hz1 := ownsAt_nz (ownsAt_of (ownsRow_zero hn.own)); refine LR.back (h1.newSl hn) ?_; clear hn h1) | (refine (t13 ag cg v.gaps w1 (h1.rd_of (by (repeat (first | exact mH _ _ | apply mT)))) hzg hmg).mono ?_; rintro v w2 ⟨a2, c2, rfl, hn⟩; refine LR.back (h1.newSl hn) ?_; clear hn h1) | (refine (h14 a1 c1 a2 c2 w1 (h1.rd_of_own (by (repeat (first | exact mH _ _ | apply mT)))) hz1 hm (h1.rd_of_own (by (repeat (first | exact mH _ _ | apply mT)))) hmg).mono ?_; rintro v w2 ⟨a3, c3, rfl, hn⟩; have hf3 := fun h => (ownsAt_rd hn.own).form h; refine LR.back (St.newOd h1 hn) ?_; clear hn h1) | (refine (h15 w1 (h1.rd_of (by (repeat (first | exact mH _ _ | apply mT)))) hm (h1.rd_of (by (repeat (first | exact mH _ _ | apply mT)))) hmg).mono ?_; rintro v w2 ⟨a4, c4, rfl, hn⟩; refine LR.back (h1.newSl hn) ?_; clear hn h1)))|((first|(apply kR;iterate 2 exact rfl)|(apply kQ;exact rfl));all_goals(intro hc;try simp only[hcs]at hc;try(exfalso;first|contradiction|omega))))
  rename_i p2 p3 wa wb p5 wc wd we wf p7 p8
  have hR16 : R.ask.length ≤ 16 := by
    rw [hR]
    unfold visitT
    split
    · exact askV_len _ _
    · simp [noTk]
  all_goals (
    apply DW.quiet [0, 2]
    · decide +kernel
    · first | exact fun _ h => h | exact fun _ h => St.sub h (by repeat (first | exact List.Sublist.refl _ | apply List.Sublist.cons_cons | apply List.Sublist.cons))
    repeat'(first|(apply yp;iterate 3 exact rfl)|(apply QL.ev;(·exact rfl);(·first|((first|apply Ez|apply Ey);(·exact rfl);(·repeat(first|exact iO|exact iR rfl|apply iT));exact rfl)|((first|apply Ev.fieldAddr|apply Ev.len|apply EqOf.eq|apply EqOf.ne|apply Ev.conv|apply Ev.buildN);exact rfl)|((first|apply Ev.shr|apply Ev.shl);(iterate 2 exact rfl);first|decide|omega));·exact rfl)|(apply yq;iterate 5 exact rfl)|(apply QL.evg;(iterate 3 exact rfl);(·first|((first|apply Ez|apply Ey);(·exact rfl);(·repeat(first|exact iO|exact iR rfl|apply iT));exact rfl)|((first|apply Ev.fieldAddr|apply Ev.len|apply EqOf.eq|apply EqOf.ne|apply Ev.conv|apply Ev.buildN);exact rfl)|((first|apply Ev.shr|apply Ev.shl);(iterate 2 exact rfl);first|decide|omega));·exact rfl)|(apply yn;iterate 4 exact rfl)|((apply QL.split;iterate 3 exact rfl);all_goals(intro hc;try simp only[hcs]at hc;try(exfalso;first|contradiction|omega)))|apply QL.nil)
    all_goals (show DW _ _ _ _ _ _ _ _))
  all_goals (
    apply DW.loud 1
    · exact rfl
    · decide +kernel
    repeat'(first|(apply kg;iterate 2 exact rfl)|(apply kG;iterate 3 exact rfl)|apply kM|(apply kp;iterate 2 exact rfl)|((first|apply kz|apply ky);(·exact rfl);(·repeat(first|exact iO|exact iR rfl|apply iT));iterate 2 exact rfl)|(apply Go.Hb.kK;(iterate 4 exact rfl);intro _)|(apply kU;(iterate 2 exact rfl);(·repeat(first|exact sH _ _ _|apply sT));(first|exact nfL_eq rfl|exact rfl);exact rfl)|(apply kB;(iterate 2 exact rfl);intro _)|(apply kA;exact rfl;intro _)|(apply kq; (· exact rfl); (· intro w1 h1; first | exact CallsTo.q (t20 w1) h1 | exact CallsTo.q (t16 t a1 c1 w1 (h1.rd_of_own (by (repeat (first | exact mH _ _ | apply mT)))) (by omega)) h1 | exact CallsTo.q (t17 t a c w1 (h1.rd_of (by (repeat (first | exact mH _ _ | apply mT)))) hm) h1 | (have hq := CallsTo.q (t18 R R a3 a4 c3 c4 w1 (h1.rd_of_odl (by (repeat (first | exact mH _ _ | apply mT)))) (h1.rd_of_own (by (repeat (first | exact mH _ _ | apply mT)))) (by omega)) h1; rw [decide_eq_true rfl] at hq; exact hq) | (have hq := CallsTo.q (t18 t t a1 a c1 c w1 (h1.rd_of_own (by (repeat (first | exact mH _ _ | apply mT)))) (h1.rd_of (by (repeat (first | exact mH _ _ | apply mT)))) hm) h1; rw [decide_eq_true rfl] at hq; exact hq) | (have hq := CallsTo.q (t19 a2 ag c2 cg v.gaps v.gaps w1 (h1.rd_of_own (by (repeat (first | exact mH _ _ | apply mT)))) (h1.rd_of (by (repeat (first | exact mH _ _ | apply mT)))) hmg) h1; rw [decide_eq_true rfl] at hq; exact hq))))
    all_goals (refine At.stage_same (fun _ h => St.sub h (by repeat (first | exact List.Sublist.refl _ | apply List.Sublist.cons_cons | apply List.Sublist.cons))) ?_))
  all_goals (
    apply DW.loud 3
    · exact rfl
    · decide +kernel
    repeat'(first|(apply kg;iterate 2 exact rfl)|(apply kG;iterate 3 exact rfl)|apply kM|(apply kp;iterate 2 exact rfl)|((first|apply kz|apply ky);(·exact rfl);(·repeat(first|exact iO|exact iR rfl|apply iT));iterate 2 exact rfl)|(apply Go.Hb.kK;(iterate 4 exact rfl);intro _)|(apply kU;(iterate 2 exact rfl);(·repeat(first|exact sH _ _ _|apply sT));(first|exact nfL_eq rfl|exact rfl);exact rfl)|(apply kB;(iterate 2 exact rfl);intro _)|(apply kA;exact rfl;intro _)|(apply kq; (· exact rfl); (· intro w1 h1; first | exact CallsTo.q (t20 w1) h1 | exact CallsTo.q (t16 t a1 c1 w1 (h1.rd_of_own (by (repeat (first | exact mH _ _ | apply mT)))) (by omega)) h1 | exact CallsTo.q (t17 t a c w1 (h1.rd_of (by (repeat (first | exact mH _ _ | apply mT)))) hm) h1 | (have hq := CallsTo.q (t18 R R a3 a4 c3 c4 w1 (h1.rd_of_odl (by (repeat (first | exact mH _ _ | apply mT)))) (h1.rd_of_own (by (repeat (first | exact mH _ _ | apply mT)))) (by omega)) h1; rw [decide_eq_true rfl] at hq; exact hq) | (have hq := CallsTo.q (t18 t t a1 a c1 c w1 (h1.rd_of_own (by (repeat (first | exact mH _ _ | apply mT)))) (h1.rd_of (by (repeat (first | exact mH _ _ | apply mT)))) hm) h1; rw [decide_eq_true rfl] at hq; exact hq) | (have hq := CallsTo.q (t19 a2 ag c2 cg v.gaps v.gaps w1 (h1.rd_of_own (by (repeat (first | exact mH _ _ | apply mT)))) (h1.rd_of (by (repeat (first | exact mH _ _ | apply mT)))) hmg) h1; rw [decide_eq_true rfl] at hq; exact hq))))
    all_goals (refine At.stage_same (fun _ h => St.sub h (by repeat (first | exact List.Sublist.refl _ | apply List.Sublist.cons_cons | apply List.Sublist.cons))) ?_))
  all_goals (
    apply DW.quiet [4, 5, 6, 7]
    · decide +kernel
    · first | exact fun _ h => h | exact fun _ h => St.sub h (by repeat (first | exact List.Sublist.refl _ | apply List.Sublist.cons_cons | apply List.Sublist.cons))
    repeat'(first|(apply yp;iterate 3 exact rfl)|(apply QL.ev;(·exact rfl);(·first|((first|apply Ez|apply Ey);(·exact rfl);(·repeat(first|exact iO|exact iR rfl|apply iT));exact rfl)|((first|apply Ev.fieldAddr|apply Ev.len|apply EqOf.eq|apply EqOf.ne|apply Ev.conv|apply Ev.buildN);exact rfl)|((first|apply Ev.shr|apply Ev.shl);(iterate 2 exact rfl);first|decide|omega));·exact rfl)|(apply yq;iterate 5 exact rfl)|(apply QL.evg;(iterate 3 exact rfl);(·first|((first|apply Ez|apply Ey);(·exact rfl);(·repeat(first|exact iO|exact iR rfl|apply iT));exact rfl)|((first|apply Ev.fieldAddr|apply Ev.len|apply EqOf.eq|apply EqOf.ne|apply Ev.conv|apply Ev.buildN);exact rfl)|((first|apply Ev.shr|apply Ev.shl);(iterate 2 exact rfl);first|decide|omega));·exact rfl)|(apply yn;iterate 4 exact rfl)|((apply QL.split;iterate 3 exact rfl);all_goals(intro hc;try simp only[hcs]at hc;try(exfalso;first|contradiction|omega)))|apply QL.nil)
    all_goals (show DW _ _ _ _ _ _ _ _))
  all_goals (
    apply DW.loud 8
    · exact rfl
    · decide +kernel
    repeat'(first|(apply kg;iterate 2 exact rfl)|(apply kG;iterate 3 exact rfl)|apply kM|(apply kp;iterate 2 exact rfl)|((first|apply kz|apply ky);(·exact rfl);(·repeat(first|exact iO|exact iR rfl|apply iT));iterate 2 exact rfl)|(apply Go.Hb.kK;(iterate 4 exact rfl);intro _)|(apply kU;(iterate 2 exact rfl);(·repeat(first|exact sH _ _ _|apply sT));(first|exact nfL_eq rfl|exact rfl);exact rfl)|(apply kB;(iterate 2 exact rfl);intro _)|(apply kA;exact rfl;intro _)|(apply kq; (· exact rfl); (· intro w1 h1; first | exact CallsTo.q (t20 w1) h1 | exact CallsTo.q (t16 t a1 c1 w1 (h1.rd_of_own (by (repeat (first | exact mH _ _ | apply mT)))) (by omega)) h1 | exact CallsTo.q (t17 t a c w1 (h1.rd_of (by (repeat (first | exact mH _ _ | apply mT)))) hm) h1 | (have hq := CallsTo.q (t18 R R a3 a4 c3 c4 w1 (h1.rd_of_odl (by (repeat (first | exact mH _ _ | apply mT)))) (h1.rd_of_own (by (repeat (first | exact mH _ _ | apply mT)))) (by omega)) h1; rw [decide_eq_true rfl] at hq; exact hq) | (have hq := CallsTo.q (t18 t t a1 a c1 c w1 (h1.rd_of_own (by (repeat (first | exact mH _ _ | apply mT)))) (h1.rd_of (by (repeat (first | exact mH _ _ | apply mT)))) hm) h1; rw [decide_eq_true rfl] at hq; exact hq) | (have hq := CallsTo.q (t19 a2 ag c2 cg v.gaps v.gaps w1 (h1.rd_of_own (by (repeat (first | exact mH _ _ | apply mT)))) (h1.rd_of (by (repeat (first | exact mH _ _ | apply mT)))) hmg) h1; rw [decide_eq_true rfl] at hq; exact hq))))
    all_goals (refine At.stage_same (fun _ h => St.sub h (by repeat (first | exact List.Sublist.refl _ | apply List.Sublist.cons_cons | apply List.Sublist.cons))) ?_))
  all_goals (
    apply DW.quiet [9, 10, 11, 12, 13]
    · decide +kernel
    · first | exact fun _ h => h | exact fun _ h => St.sub h (by repeat (first | exact List.Sublist.refl _ | apply List.Sublist.cons_cons | apply List.Sublist.cons))
    repeat'(first|(apply yp;iterate 3 exact rfl)|(apply QL.ev;(·exact rfl);(·first|((first|apply Ez|apply Ey);(·exact rfl);(·repeat(first|exact iO|exact iR rfl|apply iT));exact rfl)|((first|apply Ev.fieldAddr|apply Ev.len|apply EqOf.eq|apply EqOf.ne|apply Ev.conv|apply Ev.buildN);exact rfl)|((first|apply Ev.shr|apply Ev.shl);(iterate 2 exact rfl);first|decide|omega));·exact rfl)|(apply yq;iterate 5 exact rfl)|(apply QL.evg;(iterate 3 exact rfl);(·first|((first|apply Ez|apply Ey);(·exact rfl);(·repeat(first|exact iO|exact iR rfl|apply iT));exact rfl)|((first|apply Ev.fieldAddr|apply Ev.len|apply EqOf.eq|apply EqOf.ne|apply Ev.conv|apply Ev.buildN);exact rfl)|((first|apply Ev.shr|apply Ev.shl);(iterate 2 exact rfl);first|decide|omega));·exact rfl)|(apply yn;iterate 4 exact rfl)|((apply QL.split;iterate 3 exact rfl);all_goals(intro hc;try simp only[hcs]at hc;try(exfalso;first|contradiction|omega)))|apply QL.nil)
    all_goals (show DW _ _ _ _ _ _ _ _))
  all_goals (
    apply DW.loud 14
    · exact rfl
    · decide +kernel
    repeat'(first|(apply kg;iterate 2 exact rfl)|(apply kG;iterate 3 exact rfl)|apply kM|(apply kp;iterate 2 exact rfl)|((first|apply kz|apply ky);(·exact rfl);(·repeat(first|exact iO|exact iR rfl|apply iT));iterate 2 exact rfl)|(apply Go.Hb.kK;(iterate 4 exact rfl);intro _)|(apply kU;(iterate 2 exact rfl);(·repeat(first|exact sH _ _ _|apply sT));(first|exact nfL_eq rfl|exact rfl);exact rfl)|(apply kB;(iterate 2 exact rfl);intro _)|(apply kA;exact rfl;intro _)|(apply kq; (· exact rfl); (· intro w1 h1; first | exact CallsTo.q (t20 w1) h1 | exact CallsTo.q (t16 t a1 c1 w1 (h1.rd_of_own (by (repeat (first | exact mH _ _ | apply mT)))) (by omega)) h1 | exact CallsTo.q (t17 t a c w1 (h1.rd_of (by (repeat (first | exact mH _ _ | apply mT)))) hm) h1 | (have hq := CallsTo.q (t18 R R a3 a4 c3 c4 w1 (h1.rd_of_odl (by (repeat (first | exact mH _ _ | apply mT)))) (h1.rd_of_own (by (repeat (first | exact mH _ _ | apply mT)))) (by omega)) h1; rw [decide_eq_true rfl] at hq; exact hq) | (have hq := CallsTo.q (t18 t t a1 a c1 c w1 (h1.rd_of_own (by (repeat (first | exact mH _ _ | apply mT)))) (h1.rd_of (by (repeat (first | exact mH _ _ | apply mT)))) hm) h1; rw [decide_eq_true rfl] at hq; exact hq) | (have hq := CallsTo.q (t19 a2 ag c2 cg v.gaps v.gaps w1 (h1.rd_of_own (by (repeat (first | exact mH _ _ | apply mT)))) (h1.rd_of (by (repeat (first | exact mH _ _ | apply mT)))) hmg) h1; rw [decide_eq_true rfl] at hq; exact hq))))
    all_goals (refine At.stage_same (fun _ h => St.sub h (by repeat (first | exact List.Sublist.refl _ | apply List.Sublist.cons_cons | apply List.Sublist.cons))) ?_))
  all_goals (
    apply DW.quiet [15, 16, 17, 18, 19, 20]
    · decide +kernel
    · first | exact fun _ h => h | exact fun _ h => St.sub h (by repeat (first | exact List.Sublist.refl _ | apply List.Sublist.cons_cons | apply List.Sublist.cons))
    repeat'(first|(apply yp;iterate 3 exact rfl)|(apply QL.ev;(·exact rfl);(·first|((first|apply Ez|apply Ey);(·exact rfl);(·repeat(first|exact iO|exact iR rfl|apply iT));exact rfl)|((first|apply Ev.fieldAddr|apply Ev.len|apply EqOf.eq|apply EqOf.ne|apply Ev.conv|apply Ev.buildN);exact rfl)|((first|apply Ev.shr|apply Ev.shl);(iterate 2 exact rfl);first|decide|omega));·exact rfl)|(apply yq;iterate 5 exact rfl)|(apply QL.evg;(iterate 3 exact rfl);(·first|((first|apply Ez|apply Ey);(·exact rfl);(·repeat(first|exact iO|exact iR rfl|apply iT));exact rfl)|((first|apply Ev.fieldAddr|apply Ev.len|apply EqOf.eq|apply EqOf.ne|apply Ev.conv|apply Ev.buildN);exact rfl)|((first|apply Ev.shr|apply Ev.shl);(iterate 2 exact rfl);first|decide|omega));·exact rfl)|(apply yn;iterate 4 exact rfl)|((apply QL.split;iterate 3 exact rfl);all_goals(intro hc;try simp only[hcs]at hc;try(exfalso;first|contradiction|omega)))|apply QL.nil)
    all_goals (show DW _ _ _ _ _ _ _ _))
  all_goals (
    apply DW.loud 21
    · exact rfl
    · decide +kernel
    repeat'(first|(apply kg;iterate 2 exact rfl)|(apply kG;iterate 3 exact rfl)|apply kM|(apply kp;iterate 2 exact rfl)|((first|apply kz|apply ky);(·exact rfl);(·repeat(first|exact iO|exact iR rfl|apply iT));iterate 2 exact rfl)|(apply Go.Hb.kK;(iterate 4 exact rfl);intro _)|(apply kU;(iterate 2 exact rfl);(·repeat(first|exact sH _ _ _|apply sT));(first|exact nfL_eq rfl|exact rfl);exact rfl)|(apply kB;(iterate 2 exact rfl);intro _)|(apply kA;exact rfl;intro _)|(apply kq; (· exact rfl); (· intro w1 h1; first | exact CallsTo.q (t20 w1) h1 | exact CallsTo.q (t16 t a1 c1 w1 (h1.rd_of_own (by (repeat (first | exact mH _ _ | apply mT)))) (by omega)) h1 | exact CallsTo.q (t17 t a c w1 (h1.rd_of (by (repeat (first | exact mH _ _ | apply mT)))) hm) h1 | (have hq := CallsTo.q (t18 R R a3 a4 c3 c4 w1 (h1.rd_of_odl (by (repeat (first | exact mH _ _ | apply mT)))) (h1.rd_of_own (by (repeat (first | exact mH _ _ | apply mT)))) (by omega)) h1; rw [decide_eq_true rfl] at hq; exact hq) | (have hq := CallsTo.q (t18 t t a1 a c1 c w1 (h1.rd_of_own (by (repeat (first | exact mH _ _ | apply mT)))) (h1.rd_of (by (repeat (first | exact mH _ _ | apply mT)))) hm) h1; rw [decide_eq_true rfl] at hq; exact hq) | (have hq := CallsTo.q (t19 a2 ag c2 cg v.gaps v.gaps w1 (h1.rd_of_own (by (repeat (first | exact mH _ _ | apply mT)))) (h1.rd_of (by (repeat (first | exact mH _ _ | apply mT)))) hmg) h1; rw [decide_eq_true rfl] at hq; exact hq))))
    all_goals (refine At.stage_same (fun _ h => St.sub h (by repeat (first | exact List.Sublist.refl _ | apply List.Sublist.cons_cons | apply List.Sublist.cons))) ?_))
  all_goals (
    apply DW.quiet [22, 23]
    · decide +kernel
    · first | exact fun _ h => h | exact fun _ h => St.sub h (by repeat (first | exact List.Sublist.refl _ | apply List.Sublist.cons_cons | apply List.Sublist.cons))
    repeat'(first|(apply yp;iterate 3 exact rfl)|(apply QL.ev;(·exact rfl);(·first|((first|apply Ez|apply Ey);(·exact rfl);(·repeat(first|exact iO|exact iR rfl|apply iT));exact rfl)|((first|apply Ev.fieldAddr|apply Ev.len|apply EqOf.eq|apply EqOf.ne|apply Ev.conv|apply Ev.buildN);exact rfl)|((first|apply Ev.shr|apply Ev.shl);(iterate 2 exact rfl);first|decide|omega));·exact rfl)|(apply yq;iterate 5 exact rfl)|(apply QL.evg;(iterate 3 exact rfl);(·first|((first|apply Ez|apply Ey);(·exact rfl);(·repeat(first|exact iO|exact iR rfl|apply iT));exact rfl)|((first|apply Ev.fieldAddr|apply Ev.len|apply EqOf.eq|apply EqOf.ne|apply Ev.conv|apply Ev.buildN);exact rfl)|((first|apply Ev.shr|apply Ev.shl);(iterate 2 exact rfl);first|decide|omega));·exact rfl)|(apply yn;iterate 4 exact rfl)|((apply QL.split;iterate 3 exact rfl);all_goals(intro hc;try simp only[hcs]at hc;try(exfalso;first|contradiction|omega)))|apply QL.nil)
    all_goals (show DW _ _ _ _ _ _ _ _))
  all_goals (first | (apply DW.done_thn; (· decide +kernel)) | (apply DW.done; (· decide +kernel)))
  repeat'(first|(apply kp;iterate 2 exact rfl)|apply jJ|(apply jE;exact rfl)|(apply jp;exact rfl)|(apply jc;kernel_rfl)|((first|apply kf|apply kn|apply ke|apply kx|apply kc|apply kb);iterate 2 exact rfl)|((first|apply kz|apply ky);(·exact rfl);(·repeat(first|exact iO|exact iR rfl|apply iT));iterate 2 exact rfl)|(apply kg;iterate 2 exact rfl)|(apply kG;iterate 3 exact rfl)|(apply kB;(iterate 2 exact rfl);intro _)|(apply kA;exact rfl;intro _)|(apply Go.Hb.kK;(iterate 4 exact rfl);intro _)|(apply kU;(iterate 2 exact rfl);(·repeat(first|exact sH _ _ _|apply sT));(first|exact nfL_eq rfl|exact rfl);exact rfl)|((first|apply kh|apply kl);(iterate 2 exact rfl);(first|decide|omega);exact rfl)|((first|(apply kR;iterate 2 exact rfl)|(apply kQ;exact rfl));all_goals(intro hc;try simp only[hcs]at hc;try(exfalso;first|contradiction|omega))))
  apply CW.loop [9, 54, 55, 56, 57, 58, 59, 60, 61, 62, 63, 64] (fun s : Nat × List Int => s.1 ≤ R.ask.length ∧ s.2.length = R.ask.length) (fun s => [(9, .int .i64 (s.1 : Int))])
    (fun s => St w NoF [tkI p8 R a4 c4, osl (.slice a4 R.ask.length c4) 3 1 R.ask.length (iv R.ask), tkI p7 R a3 c3, odl (.slice a3 R.ask.length c3) 3 1 R.ask.length (iv s.2), osl (.slice a2 v.gaps.length c2) 3 1 v.gaps.length (iv v.gaps), tkI p5 t a1 c1, osl (.slice a1 t.ask.length c1) 3 1 t.ask.length (iv t.ask), .own p3 (.cells (v.cells ag cg).toArray 28 (0, 0)), tkI p2 t a c, rdA a (iv t.ask), rdA ag (iv v.gaps)]) (fun s => R.ask.length - s.1)
  · exact fun w' hw' => ⟨(0, R.ask), ⟨by simp, rfl⟩, ⟨rfl, trivial⟩, hw'⟩
  rintro ⟨i, l⟩ g1 ⟨hi, hl⟩
  simp only at hi hl ⊢
  by_cases hlt : i < R.ask.length
  · obtain ⟨ba, oa, rfl⟩ := hf3 (fun e => by have := congrArg List.length e; simp at this; simp [this] at hlt)
    repeat'(first|(apply kp;iterate 2 exact rfl)|apply jJ|(apply jE;exact rfl)|(apply jp;exact rfl)|(apply jc;kernel_rfl)|((first|apply kf|apply kn|apply ke|apply kx|apply kc|apply kb);iterate 2 exact rfl)|((first|apply kz|apply ky);(·exact rfl);(·repeat(first|exact iO|exact iR rfl|apply iT));iterate 2 exact rfl)|(apply kg;iterate 2 exact rfl)|(apply kG;iterate 3 exact rfl)|(apply kB;(iterate 2 exact rfl);intro _)|(apply kA;exact rfl;intro _)|(apply Go.Hb.kK;(iterate 4 exact rfl);intro _)|(apply kU;(iterate 2 exact rfl);(·repeat(first|exact sH _ _ _|apply sT));(first|exact nfL_eq rfl|exact rfl);exact rfl)|((first|apply kh|apply kl);(iterate 2 exact rfl);(first|decide|omega);exact rfl)|(apply idxX;(iterate 2 exact rfl);(iterate 2(first|omega|(dsimp only;omega)));exact rfl)|((first|(apply kR;iterate 2 exact rfl)|(apply kQ;exact rfl));all_goals(intro hc;try simp only[hcs]at hc;try(exfalso;first|contradiction|omega))))
    refine LR.store_obj (v := .int .i64 (-1)) (z := odl (.slice (some ⟨ba, oa, none⟩) R.ask.length c3) 3 1 R.ask.length (iv l)) (z' := odl (.slice (some ⟨ba, oa, none⟩) R.ask.length c3) 3 1 R.ask.length (iv (l.set i (-1)))) rfl rfl (by (repeat (first | exact sH _ _ _ | apply sT))) rfl (st_odl1 (by simp) (by omega)) (odl.dep _ _ _ _ _) ?_
    repeat'(first|(apply kp;iterate 2 exact rfl)|apply jJ|(apply jE;exact rfl)|(apply jp;exact rfl)|(apply jc;kernel_rfl)|((first|apply kf|apply kn|apply ke|apply kx|apply kc|apply kb);iterate 2 exact rfl)|((first|apply kz|apply ky);(·exact rfl);(·repeat(first|exact iO|exact iR rfl|apply iT));iterate 2 exact rfl)|(apply kg;iterate 2 exact rfl)|(apply kG;iterate 3 exact rfl)|(apply kB;(iterate 2 exact rfl);intro _)|(apply kA;exact rfl;intro _)|(apply Go.Hb.kK;(iterate 4 exact rfl);intro _)|(apply kU;(iterate 2 exact rfl);(·repeat(first|exact sH _ _ _|apply sT));(first|exact nfL_eq rfl|exact rfl);exact rfl)|((first|apply kh|apply kl);(iterate 2 exact rfl);(first|decide|omega);exact rfl)|(apply addX;(iterate 2 exact rfl);(iterate 2(first|omega|(dsimp only;omega)));exact rfl)|((first|(apply kR;iterate 2 exact rfl)|(apply kQ;exact rfl));all_goals(intro hc;try simp only[hcs]at hc;try(exfalso;first|contradiction|omega))))
    refine At.again (i + 1, l.set i (-1)) ⟨by simp only; omega, by simp only [List.length_set]; exact hl⟩ ?_ ⟨rfl, trivial⟩ (fun w' hw' => hw') (by simp only; omega)
    (repeat (first | exact Out.refl _ _ | exact Out.mix | (apply Out.upd; (· exact rfl)) | (apply Out.updL; (· exact rfl)) | (apply Out.mixs; (· exact rfl))))
  · have hie : i = R.ask.length := by omega
    repeat'(first|(apply kp;iterate 2 exact rfl)|apply jJ|(apply jE;exact rfl)|(apply jp;exact rfl)|(apply jc;kernel_rfl)|((first|apply kf|apply kn|apply ke|apply kx|apply kc|apply kb);iterate 2 exact rfl)|((first|apply kz|apply ky);(·exact rfl);(·repeat(first|exact iO|exact iR rfl|apply iT));iterate 2 exact rfl)|(apply kg;iterate 2 exact rfl)|(apply kG;iterate 3 exact rfl)|(apply kB;(iterate 2 exact rfl);intro _)|(apply kA;exact rfl;intro _)|(apply Go.Hb.kK;(iterate 4 exact rfl);intro _)|(apply kU;(iterate 2 exact rfl);(·repeat(first|exact sH _ _ _|apply sT));(first|exact nfL_eq rfl|exact rfl);exact rfl)|((first|apply kh|apply kl);(iterate 2 exact rfl);(first|decide|omega);exact rfl)|(apply kq; (· exact rfl); (· intro w1 h1; first | exact CallsTo.q (t20 w1) h1 | exact CallsTo.q (t16 t a1 c1 w1 (h1.rd_of_own (by (repeat (first | exact mH _ _ | apply mT)))) (by omega)) h1 | exact CallsTo.q (t17 t a c w1 (h1.rd_of (by (repeat (first | exact mH _ _ | apply mT)))) hm) h1 | (have hq := CallsTo.q (t18 R R a3 a4 c3 c4 w1 (h1.rd_of_odl (by (repeat (first | exact mH _ _ | apply mT)))) (h1.rd_of_own (by (repeat (first | exact mH _ _ | apply mT)))) (by omega)) h1; rw [decide_eq_true rfl] at hq; exact hq) | (have hq := CallsTo.q (t18 t t a1 a c1 c w1 (h1.rd_of_own (by (repeat (first | exact mH _ _ | apply mT)))) (h1.rd_of (by (repeat (first | exact mH _ _ | apply mT)))) hm) h1; rw [decide_eq_true rfl] at hq; exact hq) | (have hq := CallsTo.q (t19 a2 ag c2 cg v.gaps v.gaps w1 (h1.rd_of_own (by (repeat (first | exact mH _ _ | apply mT)))) (h1.rd_of (by (repeat (first | exact mH _ _ | apply mT)))) hmg) h1; rw [decide_eq_true rfl] at hq; exact hq)))|((first|(apply kR;iterate 2 exact rfl)|(apply kQ;exact rfl));all_goals(intro hc;try simp only[hcs]at hc;try(exfalso;first|contradiction|omega))))
    (apply ret1; (· exact rfl); intro w' hS)
    exact ⟨rfl, hS.toKeep⟩
end Go.Proofs.Ythmmmbphknoagaa

namespace Go.Hb
theorem zeroCells_one (z : Value) (m : Nat) : (Builtin.zeroCells [z].toArray m).toList = List.replicate m z := by
  simp [Builtin.zeroCells]
  apply List.ext_getElem
  · simp
  · intro i h1 h2
    simp [Nat.mod_one]
theorem run_clear {P : Program} {w : World} {t E ty : TypeId} {z : Value} {by_ : Nat} (h : SliceOf P t E 1 by_) (hz : ZeroOf P E [z]) (h1 : z.oneCell' = true) {a : Option Addr} {n c j : Nat} {xs : List Value} (hw : ownsAt w E 1 (.slice a n c) n xs) (hj : j ≤ n) :
    ∃ w', (Builtin.clear_ #[t] ty #[.slice (subA a c j 1) (n - j) (c - j)]).run P w = .ok (.tuple #[]) w' ∧ Step (odl (.slice a n c) E 1 n xs) (odl (.slice a n c) E 1 n (xs.take j ++ List.replicate (n - j) z)) w w' := by
  obtain ⟨hl, hr⟩ := hw
  have hl' : xs.length = n := by omega
  by_cases hm : n - j = 0
  · refine ⟨w, ?_, ?_⟩
    · rw [hm]
      cases subA a c j 1 <;> simp [Builtin.clear_, run_underlying h.und]
    · have e : xs.take j ++ List.replicate (n - j) z = xs := by rw [hm, List.take_of_length_le (by omega)]; simp
      rw [e]
      exact ⟨St.refl w _, ⟨hl, hr⟩, fun k hk => .inl hk⟩
  · rcases hr with ⟨he, hn0⟩ | ⟨g, o, cap, cur, he, hg, hnc, hcm, hcs, htake⟩
    · omega
    simp only [Value.slice.injEq] at he
    obtain ⟨rfl, _, rfl⟩ := he
    obtain ⟨v, hv, hvc⟩ := hz.zero
    have hsub : subA (some ⟨g, o, none⟩) c j 1 = some ⟨g, o + j, none⟩ := by
      unfold subA
      rw [if_neg (by omega)]
      simp [addr_add]
    have hst := run_storeCells_at P g (o + j) E (List.replicate (n - j) z) 0 cur w (by simpa using hg) (by simp; omega) (fun u hu => by rw [List.eq_of_mem_replicate hu]; exact h1)
    have e : ∀ (D vs : List Value), D.take (o + j + 0) ++ vs ++ D.drop (o + j + 0 + vs.length) = splice D (o + j) vs := fun _ _ => rfl
    rw [e] at hst
    obtain ⟨m, hm'⟩ : ∃ m, n - j = m + 1 := ⟨n - j - 1, by omega⟩
    have hg' : w.heap[g]? = some (.cells cur.toList.toArray E (0, 0)) := by simpa using hg
    have hsz : cur.toList.length = cur.size := Array.length_toList
    refine ⟨w.setRow g (splice cur.toList (o + j) (List.replicate (n - j) z)).toArray, ?_, Keep.setRow w g _ _ E hg rfl, ⟨by simp; omega, .inr ⟨g, o, c, _, rfl, setRow_heap w g _ _ E (0, 0) hg, hnc, hcm, ?_, ?_⟩⟩, fun k hk => .inl hk⟩
    · rw [hsub]
      have hzc := zeroCells_one z (n - j)
      rw [hm'] at hzc hst ⊢
      simp [Builtin.clear_, run_underlying h.und, hv, hvc, hzc, hst]
    · simp [splice]; omega
    · show ((splice cur.toList (o + j) (List.replicate (n - j) z)).drop o).take (n * 1) = _
      rw [splice_drop (by omega), splice_take (by simp; omega) (by simp; omega), htake]
      unfold splice
      rw [List.drop_eq_nil_of_le (by simp; omega), List.append_nil]
theorem fill_mono {p q : Nat → Option (Nat × Nat)} (h : ∀ i x, p i = some x → q i = some x) : ∀ (l : List (Nat × Value)) (cells r : Array Value), Instr.fill p cells l = some r → Instr.fill q cells l = some r
  | [], cells, r, hf => hf
  | (i, v) :: rest, cells, r, hf => by
    simp only [Instr.fill] at hf ⊢
    cases hp : p i with
    | none => rw [hp] at hf; cases hf
    | some x =>
      obtain ⟨off, size⟩ := x
      rw [hp] at hf
      rw [h i _ hp]
      simp only at hf ⊢
      split at hf
      · cases hf
      · rename_i hn
        rw [if_neg hn]
        exact fill_mono h rest _ r hf
/-- The places of an array of one-cell elements. -/
def arrPlaces (n : Nat) : List (Nat × Nat) := (List.range n).map fun i => (i, 1)
theorem arrPlaces_get {n i : Nat} {x : Nat × Nat} (h : (arrPlaces n).toArray[i]? = some x) : some (i * 1, 1) = some x := by
  unfold arrPlaces at h
  rw [List.getElem?_toArray, List.getElem?_map, Option.map_eq_some_iff] at h
  obtain ⟨j, hj, rfl⟩ := h
  have hi : i < n := by
    have := (List.getElem?_eq_some_iff.1 hj).1
    simpa using this
  rw [List.getElem?_range hi] at hj
  cases hj
  rw [Nat.mul_one]
section
variable {P : Program} {f : Frm} {T T' : TypeId} {x : Operand} {w0 : World} {F : Nat → Prop} {L L' : List Asrt}
variable {n' : Nat} {ops rest : List Oper} {Q : Post} {p : String} {af : Array Edge}
theorem LR.clear {E : TypeId} {z : Value} {by_ n c j : Nat} {a : Option Addr} {xs : List Value} [h : SliceOf P T E 1 by_] [hz : ZeroOf P E [z]] (hx : f.ev x = .slice (subA a c j 1) (n - j) (c - j)) (h1 : z.oneCell' = true)
    (hs : Sel L (odl (.slice a n c) E 1 n xs) (odl (.slice a n c) E 1 n (xs.take j ++ List.replicate (n - j) z)) L') (hj : j ≤ n)
    (k : LR false P n' ops rest Q f (St w0 F L')) : LR false P n' ops (⟨none, .call ⟨.builtin .clear, [x].toArray, [T].toArray⟩, T', p, af, none⟩ :: rest) Q f (St w0 F L) := by
  intro w hw b hb
  refine wpList_plain rfl fun K hK => ?_
  obtain ⟨w', hr, st⟩ := run_clear (P := P) (ty := T') h hz h1 (hw.holds _ hs.mem) hj
  have hr' : (execOp f.ev ⟨none, .call ⟨.builtin .clear, [x].toArray, [T].toArray⟩, T', p, af, none⟩).run P w = .ok (.value (.tuple #[])) w' := by
    simp only [execOp, resolve, invoke, builtin, Sem.run_bind, Sem.run_pure, Result.andThen_ok, List.map_toArray, List.map_cons, List.map_nil, hx, hr]
  rw [← hb.eval] at hr'
  simp only [Oper.wp, hr', Oper.upon_value]
  exact hK _ _ (k _ (hw.did hs rfl st (odl.dep _ _ _ _ _)) _ (hb.put_none _))
theorem LR.qcall_fv {m : Bool} {C : World → Prop} {v : Value} {d : Nat} {g : FuncId} {xs : List Operand} {ts : Array TypeId} {cap args : List Value} (hx : f.ev x = .func (.func g) #[] cap.toArray) (ha : xs.map f.ev ++ cap = args) [own : Own P g] (hd : Nat.blt d n' = true)
    (h : ∀ w, C w → CallsTo P g args w fun u w' => u = v ∧ C w') (k : LR m P n' ops rest Q (upd f d v) C) :
    LR m P n' ops (⟨some d, .call ⟨.value x, xs.toArray, ts⟩, T, p, af, none⟩ :: rest) Q f C :=
  LR.qcall_val hx hd (ha ▸ h) k
theorem Ev.load_odl {v : Value} {b o q k c sz : Nat} {E : TypeId} {xs : List Value} [h : One P T] (hx : f.ev x = .pointer (some ⟨b, o + q, none⟩)) (hm : odl (.slice (some ⟨b, o, none⟩) k c) E sz k xs ∈ L) (hc : xs[q]? = some v) : Ev P (St w0 F L) f (.load T x) T' v :=
  Ev.load hx fun w hw => (hw.rd_of_odl hm).cell hc
theorem Ev.field {C : World → Prop} {v : Value} {i : Nat} {fs : Array Field} {fd : Field} {cs : List Value} (hu : P.underlying T = some (.struct fs)) (hf : fs[i]? = some fd) (h : One P fd.type) (hx : f.ev x = .agg cs.toArray) (hc : cs[fd.offset]? = some v) : Ev P C f (.field T x i) T' v := by
  unfold Ev
  intro w _ d p af g
  simp [execOp, hx, Instr.field, run_underlying hu, hf, part, h.agg, asAgg, hc]
theorem LR.mapUpdate {T : TypeId} {x y z : Operand} {v zv : Value} {q : IntKind} {b : Nat} {l : List (Int × Value)} {key : Int} [h : MapOf P T q zv] (hx : f.ev x = .map (some b)) (hy : f.ev y = .int q key) (hz : f.ev z = v)
    (hs : Sel L (.own b (mapObj q l)) (.own b (mapObj q (l ++ [(key, v)]))) L') (hnew : (findI key l 0).isNone = true)
    (k : LR false P n' ops rest Q f (St w0 F L')) : LR false P n' ops (⟨none, .mapUpdate T x y z, T', p, af, none⟩ :: rest) Q f (St w0 F L) := by
  intro w hw a ha
  refine wpList_plain rfl fun K hK => ?_
  obtain ⟨kt, et, ht, hk, _⟩ := h.ex
  have hb : w.heap[b]? = some (.map (ents q 0 l).toArray l.length) := hw.own_at hs.mem
  have hfind : (Instr.findKey kt (.int q key) (ents q 0 l)).run P w = .ok none w := by
    refine MapKept.run_findKey hk ?_
    rw [findNow_ents]
    cases hf : findI key l 0 with
    | none => rfl
    | some r => rw [hf] at hnew; cases hnew
  have hr : (execOp a.eval ⟨none, .mapUpdate T x y z, T', p, af, none⟩).run P w = .ok .skip { w with heap := w.heap.setIfInBounds b (mapObj q (l ++ [(key, v)])) } := by
    rw [ha.eval]
    have e : Obj.map ((ents q 0 l).toArray.push ⟨.int q key, v, l.length⟩) (l.length + 1) = mapObj q (l ++ [(key, v)]) := by
      simp [mapObj, ents_snoc]
    simp only [execOp, hx, hy, hz, Instr.mapUpdate, Sem.run_bind, run_underlying ht, Result.andThen_ok, MapKept.run_getObj_map hb, MapKept.run_checkKey (k := .int q key) hk (by rfl) _ 9999, hfind, MapKept.run_setObj_map _ hb, e, Sem.run_pure]
  simp only [Oper.wp, hr, Oper.upon_skip]
  have hsz : b < w.heap.size := (Array.getElem?_eq_some_iff.1 hb).1
  refine hK _ _ (k _ ?_ _ (ha.put_none undef))
  exact hw.turn hs rfl (Keep.setObj w b _ rfl) (by show (w.heap.setIfInBounds b _)[b]? = _; simp [hsz]) (fun k hk => .inl hk) (Asrt.dep_own _ _)
theorem Ev.lookupC {C : World → Prop} {T : TypeId} {x y : Operand} {zv : Value} {q : IntKind} {b : Nat} {l : List (Int × Value)} {key : Int} {r : Option (Nat × Value)} [h : MapOf P T q zv] (hx : f.ev x = .map (some b)) (hy : f.ev y = .int q key) (hm : ∀ w, C w → w.heap[b]? = some (mapObj q l)) (hr : findI key l 0 = r) :
    Ev P C f (.lookup T x y true) T' (.tuple [(r.map Prod.snd).getD zv, .bool r.isSome].toArray) := fun w hw d p af g => by
  obtain ⟨kt, et, ht, hk, hz⟩ := h.ex
  have hb : w.heap[b]? = some (.map (ents q 0 l).toArray l.length) := hm w hw
  have hfind : (Instr.findKey kt (.int q key) (ents q 0 l)).run P w = .ok r w := by
    refine MapKept.run_findKey hk ?_
    rw [findNow_ents, hr]
  cases r with
  | none => simp [execOp, hx, hy, Instr.lookup, run_underlying ht, MapKept.run_getObj_map hb, MapKept.run_checkKey (k := .int q key) hk (by rfl) _ 9999, hfind, hz, Result.andThen]
  | some s => simp [execOp, hx, hy, Instr.lookup, run_underlying ht, MapKept.run_getObj_map hb, MapKept.run_checkKey (k := .int q key) hk (by rfl) _ 9999, hfind, Result.andThen]
theorem Ev.lookup1C {C : World → Prop} {T : TypeId} {x y : Operand} {zv : Value} {q : IntKind} {b : Nat} {l : List (Int × Value)} {key : Int} {r : Option (Nat × Value)} [h : MapOf P T q zv] (hx : f.ev x = .map (some b)) (hy : f.ev y = .int q key) (hm : ∀ w, C w → w.heap[b]? = some (mapObj q l)) (hr : findI key l 0 = r) :
    Ev P C f (.lookup T x y false) T' ((r.map Prod.snd).getD zv) := fun w hw d p af g => by
  obtain ⟨kt, et, ht, hk, hz⟩ := h.ex
  have hb : w.heap[b]? = some (.map (ents q 0 l).toArray l.length) := hm w hw
  have hfind : (Instr.findKey kt (.int q key) (ents q 0 l)).run P w = .ok r w := by
    refine MapKept.run_findKey hk ?_
    rw [findNow_ents, hr]
  cases r with
  | none => simp [execOp, hx, hy, Instr.lookup, run_underlying ht, MapKept.run_getObj_map hb, MapKept.run_checkKey (k := .int q key) hk (by rfl) _ 9999, hfind, hz, Result.andThen]
  | some s => simp [execOp, hx, hy, Instr.lookup, run_underlying ht, MapKept.run_getObj_map hb, MapKept.run_checkKey (k := .int q key) hk (by rfl) _ 9999, hfind, Result.andThen]
end
end Go.Hb

namespace Go.Proofs.Ythmmmbphknoagaa
open Go.Hb
attribute [local irreducible] LR CW At Ev thn blk finK noG again CallsTo DW QL dnext
set_option linter.unusedSimpArgs false
set_option linter.unusedVariables false
set_option maxRecDepth 100000

theorem mem_take_succ {l : List Int} {i : Nat} (h : i < l.length) (x : Int) : x ∈ l.take (i + 1) ↔ x ∈ l.take i ∨ x = l[i] := by
  rw [List.take_add_one, List.getElem?_eq_getElem h, Option.toList_some, List.mem_append, List.mem_singleton]
theorem t93 (a : Option Addr) (ca : Nat) (l : List Int) (n : Int) (w : World) (hr : Rd w a (iv l)) (hm : l.length ≤ 17592186043904) :
    CallsTo Try.prog 93 [.slice a l.length ca, .int .i64 n] w fun v w' => ∃ z : Int, v = .int .i64 z ∧ (0 ≤ z ↔ n ∈ l) ∧ Grew w w' := by
  refine go_in (n := 19) (St.rd1 hr) Try.func93 rfl rfl ?_
  repeat'(first|(apply kp;iterate 2 exact rfl)|apply jJ|(apply jE;exact rfl)|(apply jp;exact rfl)|(apply jc;kernel_rfl)|((first|apply kf|apply kn|apply ke|apply kx|apply kc|apply kb);iterate 2 exact rfl)|((first|apply kz|apply ky);(·exact rfl);(·repeat(first|exact iO|exact iR rfl|apply iT));iterate 2 exact rfl)|(apply kg;iterate 2 exact rfl)|(apply kG;iterate 3 exact rfl)|(apply kB;(iterate 2 exact rfl);intro _)|(apply kA;exact rfl;intro _)|(apply Go.Hb.kK;(iterate 4 exact rfl);intro _)|(apply kU;(iterate 2 exact rfl);(·repeat(first|exact sH _ _ _|apply sT));(first|exact nfL_eq rfl|exact rfl);exact rfl)|((first|apply kh|apply kl);(iterate 2 exact rfl);(first|decide|omega);exact rfl)|((first|(apply kR;iterate 2 exact rfl)|(apply kQ;exact rfl));all_goals(intro hc;try simp only[hcs]at hc;try(exfalso;first|contradiction|omega))))
  apply CW.loop [4, 5, 8, 9, 10, 11, 12, 13, 14, 15, 16, 17, 18] (fun i : Nat => i ≤ l.length ∧ n ∉ l.take i) (fun i : Nat => [(8, Value.int .i64 i)]) (fun i => St w NoF [rdA a (iv l)]) (fun i => l.length - i)
  · exact fun w' hw' => ⟨0, ⟨by omega, by simp⟩, ⟨rfl, trivial⟩, hw'⟩
  intro i g ⟨hi, heq⟩
  by_cases hlt : i < l.length
  · obtain ⟨ba, oa, rfl⟩ := hr.form (fun e => by have := congrArg List.length e; simp at this; subst this; simp at hlt)
    repeat'(first|(apply kp;iterate 2 exact rfl)|apply jJ|(apply jE;exact rfl)|(apply jp;exact rfl)|(apply jc;kernel_rfl)|((first|apply kf|apply kn|apply ke|apply kx|apply kc|apply kb);iterate 2 exact rfl)|((first|apply kz|apply ky);(·exact rfl);(·repeat(first|exact iO|exact iR rfl|apply iT));iterate 2 exact rfl)|(apply kg;iterate 2 exact rfl)|(apply kG;iterate 3 exact rfl)|(apply kB;(iterate 2 exact rfl);intro _)|(apply kA;exact rfl;intro _)|(apply Go.Hb.kK;(iterate 4 exact rfl);intro _)|(apply kU;(iterate 2 exact rfl);(·repeat(first|exact sH _ _ _|apply sT));(first|exact nfL_eq rfl|exact rfl);exact rfl)|((first|apply kh|apply kl);(iterate 2 exact rfl);(first|decide|omega);exact rfl)|(apply idxX;(iterate 2 exact rfl);(iterate 2(first|omega|(dsimp only;omega)));exact rfl)|(apply LR.ev; (· apply Ev.load_rd; (· exact rfl); (· repeat (first | exact mH _ _ | apply mT)); (· exact iv_at (i := i) (by simp) (by omega))); (· exact rfl))|(apply addX;(iterate 2 exact rfl);(iterate 2(first|omega|(dsimp only;omega)));exact rfl)|((first|(apply kR;iterate 2 exact rfl)|(apply kQ;exact rfl));all_goals(intro hc;try simp only[hcs]at hc;try(exfalso;first|contradiction|omega))))
    · (apply ret1; (· exact rfl); intro w' hS)
      refine ⟨_, rfl, ⟨fun _ => ?_, fun _ => by omega⟩, hS.toKeep⟩
      have h : n = l[i] := by assumption
      exact h ▸ List.getElem_mem hlt
    · have h : ¬n = l[i] := by assumption
      refine At.again (i + 1) ⟨by omega, not_take hlt heq (fun e => h e.symm)⟩ ?_ ⟨rfl, trivial⟩ (fun w' hw' => hw') (by omega)
      (repeat (first | exact Out.refl _ _ | exact Out.mix | (apply Out.upd; (· exact rfl)) | (apply Out.updL; (· exact rfl)) | (apply Out.mixs; (· exact rfl))))
  · have hie : i = l.length := by omega
    subst hie
    repeat'(first|(apply kp;iterate 2 exact rfl)|apply jJ|(apply jE;exact rfl)|(apply jp;exact rfl)|(apply jc;kernel_rfl)|((first|apply kf|apply kn|apply ke|apply kx|apply kc|apply kb);iterate 2 exact rfl)|((first|apply kz|apply ky);(·exact rfl);(·repeat(first|exact iO|exact iR rfl|apply iT));iterate 2 exact rfl)|(apply kg;iterate 2 exact rfl)|(apply kG;iterate 3 exact rfl)|(apply kB;(iterate 2 exact rfl);intro _)|(apply kA;exact rfl;intro _)|(apply Go.Hb.kK;(iterate 4 exact rfl);intro _)|(apply kU;(iterate 2 exact rfl);(·repeat(first|exact sH _ _ _|apply sT));(first|exact nfL_eq rfl|exact rfl);exact rfl)|((first|apply kh|apply kl);(iterate 2 exact rfl);(first|decide|omega);exact rfl)|((first|(apply kR;iterate 2 exact rfl)|(apply kQ;exact rfl));all_goals(intro hc;try simp only[hcs]at hc;try(exfalso;first|contradiction|omega))))
    (apply ret1; (· exact rfl); intro w' hS)
    rw [List.take_length] at heq
    exact ⟨_, rfl, ⟨fun h => absurd h (by decide), fun h => absurd h heq⟩, hS.toKeep⟩
theorem t68 (a : Option Addr) (ca : Nat) (l : List Int) (n : Int) (w : World) (hr : Rd w a (iv l)) (hm : l.length ≤ 17592186043904) :
    CallsTo Try.prog 68 [.slice a l.length ca, .int .i64 n] w fun v w' => v = .bool (decide (n ∈ l)) ∧ Grew w w' := by
  refine go_in (n := 9) (St.rd1 hr) Try.func68 rfl rfl ?_
  repeat'(first|(apply kp;iterate 2 exact rfl)|apply jJ|(apply jE;exact rfl)|(apply jp;exact rfl)|(apply jc;kernel_rfl)|((first|apply kf|apply kn|apply ke|apply kx|apply kc|apply kb);iterate 2 exact rfl)|((first|apply kz|apply ky);(·exact rfl);(·repeat(first|exact iO|exact iR rfl|apply iT));iterate 2 exact rfl)|(apply kg;iterate 2 exact rfl)|(apply kG;iterate 3 exact rfl)|(apply kB;(iterate 2 exact rfl);intro _)|(apply kA;exact rfl;intro _)|(apply Go.Hb.kK;(iterate 4 exact rfl);intro _)|(apply kU;(iterate 2 exact rfl);(·repeat(first|exact sH _ _ _|apply sT));(first|exact nfL_eq rfl|exact rfl);exact rfl)|((first|apply kh|apply kl);(iterate 2 exact rfl);(first|decide|omega);exact rfl)|((first|(apply kR;iterate 2 exact rfl)|(apply kQ;exact rfl));all_goals(intro hc;try simp only[hcs]at hc;try(exfalso;first|contradiction|omega))))
  apply LR.call
  · exact rfl
  intro w1 h1
  refine (t93 a ca l n w1 (h1.rd_of (by (repeat (first | exact mH _ _ | apply mT)))) hm).mono ?_
  rintro v w2 ⟨z, rfl, hz, hg⟩
  refine LR.back (h1.grew hg) ?_
  clear hg h1
  repeat'(first|(apply kp;iterate 2 exact rfl)|apply jJ|(apply jE;exact rfl)|(apply jp;exact rfl)|(apply jc;kernel_rfl)|((first|apply kf|apply kn|apply ke|apply kx|apply kc|apply kb);iterate 2 exact rfl)|((first|apply kz|apply ky);(·exact rfl);(·repeat(first|exact iO|exact iR rfl|apply iT));iterate 2 exact rfl)|(apply kg;iterate 2 exact rfl)|(apply kG;iterate 3 exact rfl)|(apply kB;(iterate 2 exact rfl);intro _)|(apply kA;exact rfl;intro _)|(apply Go.Hb.kK;(iterate 4 exact rfl);intro _)|(apply kU;(iterate 2 exact rfl);(·repeat(first|exact sH _ _ _|apply sT));(first|exact nfL_eq rfl|exact rfl);exact rfl)|((first|apply kh|apply kl);(iterate 2 exact rfl);(first|decide|omega);exact rfl)|((first|(apply kR;iterate 2 exact rfl)|(apply kQ;exact rfl));all_goals(intro hc;try simp only[hcs]at hc;try(exfalso;first|contradiction|omega))))
  (apply ret1; (· exact rfl); intro w' hS)
  refine ⟨congrArg Value.bool ?_, hS.toKeep⟩
  rw [decide_eq_decide]
  exact hz
abbrev hvC (ah : Option Addr) (ch : Nat) (l : List Int) : List Value := [.slice ah l.length ch]
theorem t67 (bh : Nat) (ah : Option Addr) (ch : Nat) (hv : List Int) (x : Int) (w : World) (hb : Rd w (some ⟨bh, 0, none⟩) (hvC ah ch hv)) (hr : Rd w ah (iv hv)) (hm : hv.length ≤ 17592186043904) :
    CallsTo Try.prog 67 [.int .i64 x, .pointer (some ⟨bh, 0, none⟩)] w fun v w' => v = .bool (decide (x ∈ hv)) ∧ Grew w w' := by
  refine go_in (n := 7) (St.rd2 hb hr) Try.func67 rfl rfl ?_
  repeat'(first|(apply kp;iterate 2 exact rfl)|apply jJ|(apply jE;exact rfl)|(apply jp;exact rfl)|(apply jc;kernel_rfl)|((first|apply kf|apply kn|apply ke|apply kx|apply kc|apply kb);iterate 2 exact rfl)|((first|apply kz|apply ky);(·exact rfl);(·repeat(first|exact iO|exact iR rfl|apply iT));iterate 2 exact rfl)|(apply kg;iterate 2 exact rfl)|(apply kG;iterate 3 exact rfl)|(apply kB;(iterate 2 exact rfl);intro _)|(apply kA;exact rfl;intro _)|(apply Go.Hb.kK;(iterate 4 exact rfl);intro _)|(apply kU;(iterate 2 exact rfl);(·repeat(first|exact sH _ _ _|apply sT));(first|exact nfL_eq rfl|exact rfl);exact rfl)|((first|apply kh|apply kl);(iterate 2 exact rfl);(first|decide|omega);exact rfl)|(apply kq; (· exact rfl); (· intro w1 h1; exact CallsTo.q (t68 ah ch hv x w1 (h1.rd_of (by (repeat (first | exact mH _ _ | apply mT)))) hm) h1))|((first|(apply kR;iterate 2 exact rfl)|(apply kQ;exact rfl));all_goals(intro hc;try simp only[hcs]at hc;try(exfalso;first|contradiction|omega))))
  (apply ret1; (· exact rfl); intro w' hS)
  exact ⟨rfl, hS.toKeep⟩
abbrev hvF (bh : Nat) : Value := .func (.func 67) #[] [.pointer (some ⟨bh, 0, none⟩)].toArray
theorem t92 (bh : Nat) (ah : Option Addr) (ch : Nat) (hv : List Int) (a : Option Addr) (ca : Nat) (l : List Int) (w : World) (hb : Rd w (some ⟨bh, 0, none⟩) (hvC ah ch hv)) (hh : Rd w ah (iv hv)) (hmh : hv.length ≤ 17592186043904) (hr : Rd w a (iv l)) (hm : l.length ≤ 17592186043904) :
    CallsTo Try.prog 92 [.slice a l.length ca, hvF bh] w fun v w' => Grew w w' ∧ ((v = .int .i64 (-1) ∧ ∀ x ∈ l, x ∉ hv) ∨ ∃ (i : Nat) (h : i < l.length), v = .int .i64 (i : Int) ∧ l[i] ∈ hv ∧ ∀ x ∈ l.take i, x ∉ hv) := by
  refine go_in (n := 19) ((St.rd2 hb hh).addRd hr (fun _ _ h => h)) Try.func92 rfl rfl ?_
  repeat'(first|(apply kp;iterate 2 exact rfl)|apply jJ|(apply jE;exact rfl)|(apply jp;exact rfl)|(apply jc;kernel_rfl)|((first|apply kf|apply kn|apply ke|apply kx|apply kc|apply kb);iterate 2 exact rfl)|((first|apply kz|apply ky);(·exact rfl);(·repeat(first|exact iO|exact iR rfl|apply iT));iterate 2 exact rfl)|(apply kg;iterate 2 exact rfl)|(apply kG;iterate 3 exact rfl)|(apply kB;(iterate 2 exact rfl);intro _)|(apply kA;exact rfl;intro _)|(apply Go.Hb.kK;(iterate 4 exact rfl);intro _)|(apply kU;(iterate 2 exact rfl);(·repeat(first|exact sH _ _ _|apply sT));(first|exact nfL_eq rfl|exact rfl);exact rfl)|((first|apply kh|apply kl);(iterate 2 exact rfl);(first|decide|omega);exact rfl)|((first|(apply kR;iterate 2 exact rfl)|(apply kQ;exact rfl));all_goals(intro hc;try simp only[hcs]at hc;try(exfalso;first|contradiction|omega))))
  apply CW.loop [4, 5, 8, 9, 10, 11, 12, 13, 14, 15, 16, 17, 18] (fun i : Nat => i ≤ l.length ∧ ∀ x ∈ l.take i, x ∉ hv) (fun i : Nat => [(8, Value.int .i64 i)]) (fun i => St w NoF [rdA a (iv l), rdA (some ⟨bh, 0, none⟩) (hvC ah ch hv), rdA ah (iv hv)]) (fun i => l.length - i)
  · exact fun w' hw' => ⟨0, ⟨by omega, by simp⟩, ⟨rfl, trivial⟩, hw'⟩
  intro i g ⟨hi, heq⟩
  by_cases hlt : i < l.length
  · obtain ⟨ba, oa, rfl⟩ := hr.form (fun e => by have := congrArg List.length e; simp at this; subst this; simp at hlt)
    repeat'(first|(apply kp;iterate 2 exact rfl)|apply jJ|(apply jE;exact rfl)|(apply jp;exact rfl)|(apply jc;kernel_rfl)|((first|apply kf|apply kn|apply ke|apply kx|apply kc|apply kb);iterate 2 exact rfl)|((first|apply kz|apply ky);(·exact rfl);(·repeat(first|exact iO|exact iR rfl|apply iT));iterate 2 exact rfl)|(apply kg;iterate 2 exact rfl)|(apply kG;iterate 3 exact rfl)|(apply kB;(iterate 2 exact rfl);intro _)|(apply kA;exact rfl;intro _)|(apply Go.Hb.kK;(iterate 4 exact rfl);intro _)|(apply kU;(iterate 2 exact rfl);(·repeat(first|exact sH _ _ _|apply sT));(first|exact nfL_eq rfl|exact rfl);exact rfl)|((first|apply kh|apply kl);(iterate 2 exact rfl);(first|decide|omega);exact rfl)|(apply idxX;(iterate 2 exact rfl);(iterate 2(first|omega|(dsimp only;omega)));exact rfl)|(apply LR.ev; (· apply Ev.load_rd; (· exact rfl); (· repeat (first | exact mH _ _ | apply mT)); (· exact iv_at (i := i) (by simp) (by omega))); (· exact rfl))|(apply addX;(iterate 2 exact rfl);(iterate 2(first|omega|(dsimp only;omega)));exact rfl)|((first|(apply kR;iterate 2 exact rfl)|(apply kQ;exact rfl));all_goals(intro hc;try simp only[hcs]at hc;try(exfalso;first|contradiction|omega))))
    repeat'(first|(apply kp;iterate 2 exact rfl)|apply jJ|(apply jE;exact rfl)|(apply jp;exact rfl)|(apply jc;kernel_rfl)|((first|apply kf|apply kn|apply ke|apply kx|apply kc|apply kb);iterate 2 exact rfl)|((first|apply kz|apply ky);(·exact rfl);(·repeat(first|exact iO|exact iR rfl|apply iT));iterate 2 exact rfl)|(apply kg;iterate 2 exact rfl)|(apply kG;iterate 3 exact rfl)|(apply kB;(iterate 2 exact rfl);intro _)|(apply kA;exact rfl;intro _)|(apply Go.Hb.kK;(iterate 4 exact rfl);intro _)|(apply kU;(iterate 2 exact rfl);(·repeat(first|exact sH _ _ _|apply sT));(first|exact nfL_eq rfl|exact rfl);exact rfl)|((first|apply kh|apply kl);(iterate 2 exact rfl);(first|decide|omega);exact rfl)|(apply LR.qcall_fv (g := 67) (cap := [.pointer (some ⟨bh, 0, none⟩)]) (args := [.int .i64 l[i], .pointer (some ⟨bh, 0, none⟩)]); (· exact rfl); (· exact rfl); (· exact rfl); (· intro w1 h1; exact CallsTo.q (t67 bh ah ch hv l[i] w1 (h1.rd_of (by (repeat (first | exact mH _ _ | apply mT)))) (h1.rd_of (by (repeat (first | exact mH _ _ | apply mT)))) hmh) h1))|(apply addX;(iterate 2 exact rfl);(iterate 2(first|omega|(dsimp only;omega)));exact rfl)|((first|(apply kR;iterate 2 exact rfl)|(apply kQ;exact rfl));all_goals(intro hc;try simp only[hcs]at hc;try(exfalso;first|contradiction|omega))))
    · (apply ret1; (· exact rfl); intro w' hS)
      exact ⟨hS.toKeep, .inr ⟨i, hlt, rfl, by assumption, heq⟩⟩
    · have h : ¬l[i] ∈ hv := by assumption
      refine At.again (i + 1) ⟨by omega, fun x hx => ((mem_take_succ hlt x).1 hx).elim (heq x) (fun e => e ▸ h)⟩ ?_ ⟨rfl, trivial⟩ (fun w' hw' => hw') (by omega)
      (repeat (first | exact Out.refl _ _ | exact Out.mix | (apply Out.upd; (· exact rfl)) | (apply Out.updL; (· exact rfl)) | (apply Out.mixs; (· exact rfl))))
  · have hie : i = l.length := by omega
    subst hie
    repeat'(first|(apply kp;iterate 2 exact rfl)|apply jJ|(apply jE;exact rfl)|(apply jp;exact rfl)|(apply jc;kernel_rfl)|((first|apply kf|apply kn|apply ke|apply kx|apply kc|apply kb);iterate 2 exact rfl)|((first|apply kz|apply ky);(·exact rfl);(·repeat(first|exact iO|exact iR rfl|apply iT));iterate 2 exact rfl)|(apply kg;iterate 2 exact rfl)|(apply kG;iterate 3 exact rfl)|(apply kB;(iterate 2 exact rfl);intro _)|(apply kA;exact rfl;intro _)|(apply Go.Hb.kK;(iterate 4 exact rfl);intro _)|(apply kU;(iterate 2 exact rfl);(·repeat(first|exact sH _ _ _|apply sT));(first|exact nfL_eq rfl|exact rfl);exact rfl)|((first|apply kh|apply kl);(iterate 2 exact rfl);(first|decide|omega);exact rfl)|((first|(apply kR;iterate 2 exact rfl)|(apply kQ;exact rfl));all_goals(intro hc;try simp only[hcs]at hc;try(exfalso;first|contradiction|omega))))
    (apply ret1; (· exact rfl); intro w' hS)
    rw [List.take_length] at heq
    exact ⟨hS.toKeep, .inl ⟨rfl, heq⟩⟩
/-! ### DeleteFunc -/
def keepI (hv l : List Int) : List Int := l.filter fun x => !decide (x ∈ hv)
theorem keepI_all {hv l : List Int} (h : ∀ x ∈ l, x ∉ hv) : keepI hv l = l := by
  unfold keepI
  rw [List.filter_eq_self]
  intro x hx
  simpa using h x hx
theorem keepI_succ (hv : List Int) {l : List Int} {i : Nat} (h : i < l.length) : keepI hv (l.take (i + 1)) = keepI hv (l.take i) ++ if l[i] ∈ hv then [] else [l[i]] := by
  unfold keepI
  rw [List.take_add_one, List.getElem?_eq_getElem h, Option.toList_some, List.filter_append]
  congr 1
  by_cases hx : l[i] ∈ hv
  · simp [hx]
  · simp [hx]
theorem keepI_len (hv l : List Int) : (keepI hv l).length ≤ l.length := List.length_filter_le _ _
structure Del (hv l : List Int) (i j : Nat) (xs : List Int) : Prop where
  ij : i < j
  jn : j ≤ l.length
  len : xs.length = l.length
  tk : xs.take i = keepI hv (l.take j)
  dr : xs.drop j = l.drop j
theorem Del.get {hv l : List Int} {i j : Nat} {xs : List Int} (h : Del hv l i j xs) (hj : j < l.length) : xs[j]'(by rw [h.len]; exact hj) = l[j] := by
  have h1 := h.dr
  rw [List.drop_eq_getElem_cons (by rw [h.len]; exact hj), List.drop_eq_getElem_cons hj] at h1
  exact (List.cons.inj h1).1
theorem Del.skip {hv l : List Int} {i j : Nat} {xs : List Int} (h : Del hv l i j xs) (hj : j < l.length) (hx : l[j] ∈ hv) : Del hv l i (j + 1) xs := by
  refine ⟨by have := h.ij; omega, by omega, h.len, by rw [keepI_succ hv hj, if_pos hx, List.append_nil, h.tk], ?_⟩
  have h1 := h.dr
  rw [List.drop_eq_getElem_cons (by rw [h.len]; exact hj), List.drop_eq_getElem_cons hj] at h1
  exact (List.cons.inj h1).2
theorem Del.move {hv l : List Int} {i j : Nat} {xs : List Int} (h : Del hv l i j xs) (hj : j < l.length) (hx : l[j] ∉ hv) : Del hv l (i + 1) (j + 1) (xs.set i l[j]) := by
  have hij := h.ij
  have hl := h.len
  refine ⟨by omega, by omega, by simp [hl], ?_, ?_⟩
  · rw [keepI_succ hv hj, if_neg hx, ← h.tk]
    rw [List.take_add_one, List.getElem?_set_self (by omega), Option.toList_some, List.take_set_of_le (by omega)]
  · have h1 := h.dr
    rw [List.drop_eq_getElem_cons (by rw [h.len]; exact hj), List.drop_eq_getElem_cons hj] at h1
    rw [List.drop_set_of_lt (by omega)]
    exact (List.cons.inj h1).2
structure Dst where
  i : Nat
  j : Nat
  xs : List Int
set_option maxHeartbeats 1000000 in
theorem t66 (bh : Nat) (ah : Option Addr) (ch : Nat) (hv : List Int) (a : Option Addr) (c : Nat) (l : List Int) (w : World) (h : ownsAt w 3 1 (.slice a l.length c) l.length (iv l)) (hb : Rd w (some ⟨bh, 0, none⟩) (hvC ah ch hv)) (hbd : ∀ k, rdFoot (some ⟨bh, 0, none⟩) (hvC ah ch hv) k → ¬ (idl a c l).foot k)
    (hh : Rd w ah (iv hv)) (hhd : ∀ k, rdFoot ah (iv hv) k → ¬ (idl a c l).foot k) (hmh : hv.length ≤ 17592186043904) (hm : l.length ≤ 17592186043904) :
    CallsTo Try.prog 66 [.slice a l.length c, hvF bh] w fun v w' => ∃ xs : List Int, xs.length = l.length ∧ xs.take (keepI hv l).length = keepI hv l ∧ v = .slice a (keepI hv l).length c ∧ Step (idl a c l) (odl (.slice a l.length c) 3 1 l.length (iv xs)) w w' := by
  have hcap : l.length ≤ c := by
    rcases h.2 with ⟨he, hn⟩ | ⟨g, o, cap, cur, he, _, h1, _⟩
    · omega
    · simp only [Value.slice.injEq] at he
      omega
  have hform : l ≠ [] → ∃ b o, a = some ⟨b, o, none⟩ := fun hne => (ownsAt_rd h).form (fun e => hne (by have := congrArg List.length e; simp at this; exact List.eq_nil_of_length_eq_zero (by simpa using this)))
  have hlive : ∀ k, (idl a c l).foot k → k < w.heap.size := fun k hk => ownsAt_lt h (by exact hk)
  refine go_in (n := 42) (((St.one (a := idl a c l) h hlive (odl.dep _ _ _ _ _)).addRd hh hhd).addRd hb hbd) Try.func66 rfl rfl ?_
  repeat'(first|(apply kp;iterate 2 exact rfl)|apply jJ|(apply jE;exact rfl)|(apply jp;exact rfl)|(apply jc;kernel_rfl)|((first|apply kf|apply kn|apply ke|apply kx|apply kc|apply kb);iterate 2 exact rfl)|((first|apply kz|apply ky);(·exact rfl);(·repeat(first|exact iO|exact iR rfl|apply iT));iterate 2 exact rfl)|(apply kg;iterate 2 exact rfl)|(apply kG;iterate 3 exact rfl)|(apply kB;(iterate 2 exact rfl);intro _)|(apply kA;exact rfl;intro _)|(apply Go.Hb.kK;(iterate 4 exact rfl);intro _)|(apply kU;(iterate 2 exact rfl);(·repeat(first|exact sH _ _ _|apply sT));(first|exact nfL_eq rfl|exact rfl);exact rfl)|((first|apply kh|apply kl);(iterate 2 exact rfl);(first|decide|omega);exact rfl)|((first|(apply kR;iterate 2 exact rfl)|(apply kQ;exact rfl));all_goals(intro hc;try simp only[hcs]at hc;try(exfalso;first|contradiction|omega))))
  apply LR.call
  · exact rfl
  intro w1 h1
  refine (t92 bh ah ch hv a c l w1 (h1.rd_of (by (repeat (first | exact mH _ _ | apply mT)))) (h1.rd_of (by (repeat (first | exact mH _ _ | apply mT)))) hmh (h1.rd_of_odl (by (repeat (first | exact mH _ _ | apply mT)))) hm).mono ?_
  rintro v w2 ⟨hg, ⟨rfl, hall⟩ | ⟨i0, hi0, rfl, hmem, hnot⟩⟩
  · refine LR.back (h1.grew hg) ?_
    clear hg h1
    repeat'(first|(apply kp;iterate 2 exact rfl)|apply jJ|(apply jE;exact rfl)|(apply jp;exact rfl)|(apply jc;kernel_rfl)|((first|apply kf|apply kn|apply ke|apply kx|apply kc|apply kb);iterate 2 exact rfl)|((first|apply kz|apply ky);(·exact rfl);(·repeat(first|exact iO|exact iR rfl|apply iT));iterate 2 exact rfl)|(apply kg;iterate 2 exact rfl)|(apply kG;iterate 3 exact rfl)|(apply kB;(iterate 2 exact rfl);intro _)|(apply kA;exact rfl;intro _)|(apply Go.Hb.kK;(iterate 4 exact rfl);intro _)|(apply kU;(iterate 2 exact rfl);(·repeat(first|exact sH _ _ _|apply sT));(first|exact nfL_eq rfl|exact rfl);exact rfl)|((first|apply kh|apply kl);(iterate 2 exact rfl);(first|decide|omega);exact rfl)|((first|(apply kR;iterate 2 exact rfl)|(apply kQ;exact rfl));all_goals(intro hc;try simp only[hcs]at hc;try(exfalso;first|contradiction|omega))))
    (apply ret1; (· exact rfl); intro w' hS)
    rw [keepI_all hall]
    refine ⟨l, rfl, List.take_length, rfl, (front hS 2 rfl rfl).step rfl⟩
  · refine LR.back (h1.grew hg) ?_
    clear hg h1
    repeat'(first|(apply kp;iterate 2 exact rfl)|apply jJ|(apply jE;exact rfl)|(apply jp;exact rfl)|(apply jc;kernel_rfl)|((first|apply kf|apply kn|apply ke|apply kx|apply kc|apply kb);iterate 2 exact rfl)|((first|apply kz|apply ky);(·exact rfl);(·repeat(first|exact iO|exact iR rfl|apply iT));iterate 2 exact rfl)|(apply kg;iterate 2 exact rfl)|(apply kG;iterate 3 exact rfl)|(apply kB;(iterate 2 exact rfl);intro _)|(apply kA;exact rfl;intro _)|(apply Go.Hb.kK;(iterate 4 exact rfl);intro _)|(apply kU;(iterate 2 exact rfl);(·repeat(first|exact sH _ _ _|apply sT));(first|exact nfL_eq rfl|exact rfl);exact rfl)|((first|apply kh|apply kl);(iterate 2 exact rfl);(first|decide|omega);exact rfl)|(apply addX;(iterate 2 exact rfl);(iterate 2(first|omega|(dsimp only;omega)));exact rfl)|((first|(apply kR;iterate 2 exact rfl)|(apply kQ;exact rfl));all_goals(intro hc;try simp only[hcs]at hc;try(exfalso;first|contradiction|omega))))
    apply CW.loop [5, 6, 7, 16, 17, 18, 19, 20, 21, 22, 23, 24, 25, 26, 27, 28, 29, 30, 31, 32, 33, 34, 35] (fun s : Dst => Del hv l s.i s.j s.xs) (fun s => [(5, .int .i64 (s.i : Int)), (6, .int .i64 (s.j : Int))])
      (fun s => St w (idl a c l).foot [rdA (some ⟨bh, 0, none⟩) (hvC ah ch hv), rdA ah (iv hv), odl (.slice a l.length c) 3 1 l.length (iv s.xs)]) (fun s => l.length - s.j)
    · intro w' hw'
      refine ⟨⟨i0, i0 + 1, l⟩, ⟨by simp, by simp only; omega, rfl, ?_, rfl⟩, ⟨rfl, congrArg (Value.int .i64) (by simp), trivial⟩, hw'⟩
      simp only
      rw [keepI_succ hv hi0, if_pos hmem, List.append_nil, keepI_all hnot]
    rintro ⟨i, j, xs⟩ g hD
    simp only at hD ⊢
    have hij := hD.ij
    have hjn := hD.jn
    have hlen := hD.len
    by_cases hlt : j < l.length
    · obtain ⟨ba, oa, rfl⟩ := hform (fun e => by subst e; simp at hlt)
      have hget := hD.get hlt
      repeat'(first|(apply kp;iterate 2 exact rfl)|apply jJ|(apply jE;exact rfl)|(apply jp;exact rfl)|(apply jc;kernel_rfl)|((first|apply kf|apply kn|apply ke|apply kx|apply kc|apply kb);iterate 2 exact rfl)|((first|apply kz|apply ky);(·exact rfl);(·repeat(first|exact iO|exact iR rfl|apply iT));iterate 2 exact rfl)|(apply kg;iterate 2 exact rfl)|(apply kG;iterate 3 exact rfl)|(apply kB;(iterate 2 exact rfl);intro _)|(apply kA;exact rfl;intro _)|(apply Go.Hb.kK;(iterate 4 exact rfl);intro _)|(apply kU;(iterate 2 exact rfl);(·repeat(first|exact sH _ _ _|apply sT));(first|exact nfL_eq rfl|exact rfl);exact rfl)|((first|apply kh|apply kl);(iterate 2 exact rfl);(first|decide|omega);exact rfl)|(apply idxX;(iterate 2 exact rfl);(iterate 2(first|omega|(dsimp only;omega)));exact rfl)|(apply LR.ev; (· apply Ev.load_odl; (· exact rfl); (· (repeat (first | exact mH _ _ | apply mT))); (· refine iv_at (i := j) ?_ ?_; (· simp; done); (· omega))); (· exact rfl))|(apply addX;(iterate 2 exact rfl);(iterate 2(first|omega|(dsimp only;omega)));exact rfl)|(apply LR.qcall_fv (g := 67) (cap := [.pointer (some ⟨bh, 0, none⟩)]) (args := [.int .i64 xs[j], .pointer (some ⟨bh, 0, none⟩)]); (· exact rfl); (· exact rfl); (· exact rfl); (· intro w1 h1; exact CallsTo.q (t67 bh ah ch hv xs[j] w1 (h1.rd_of (by (repeat (first | exact mH _ _ | apply mT)))) (h1.rd_of (by (repeat (first | exact mH _ _ | apply mT)))) hmh) h1))|((first|(apply kR;iterate 2 exact rfl)|(apply kQ;exact rfl));all_goals(intro hc;try simp only[hcs]at hc;try(exfalso;first|contradiction|omega))))
      · have hx : l[j] ∉ hv := by rw [← hget]; assumption
        refine LR.store_obj (v := .int .i64 xs[j]) (z := odl (.slice (some ⟨ba, oa, none⟩) l.length c) 3 1 l.length (iv xs)) (z' := odl (.slice (some ⟨ba, oa, none⟩) l.length c) 3 1 l.length (iv (xs.set i xs[j]))) rfl rfl (by (repeat (first | exact sH _ _ _ | apply sT))) rfl (st_odl1 (by simp) (by omega)) (odl.dep _ _ _ _ _) ?_
        repeat'(first|(apply kp;iterate 2 exact rfl)|apply jJ|(apply jE;exact rfl)|(apply jp;exact rfl)|(apply jc;kernel_rfl)|((first|apply kf|apply kn|apply ke|apply kx|apply kc|apply kb);iterate 2 exact rfl)|((first|apply kz|apply ky);(·exact rfl);(·repeat(first|exact iO|exact iR rfl|apply iT));iterate 2 exact rfl)|(apply kg;iterate 2 exact rfl)|(apply kG;iterate 3 exact rfl)|(apply kB;(iterate 2 exact rfl);intro _)|(apply kA;exact rfl;intro _)|(apply Go.Hb.kK;(iterate 4 exact rfl);intro _)|(apply kU;(iterate 2 exact rfl);(·repeat(first|exact sH _ _ _|apply sT));(first|exact nfL_eq rfl|exact rfl);exact rfl)|((first|apply kh|apply kl);(iterate 2 exact rfl);(first|decide|omega);exact rfl)|(apply addX;(iterate 2 exact rfl);(iterate 2(first|omega|(dsimp only;omega)));exact rfl)|((first|(apply kR;iterate 2 exact rfl)|(apply kQ;exact rfl));all_goals(intro hc;try simp only[hcs]at hc;try(exfalso;first|contradiction|omega))))
        refine At.again (⟨i + 1, j + 1, xs.set i xs[j]⟩ : Dst) (by simp only; rw [hget]; exact hD.move hlt hx) ?_ ⟨congrArg (Value.int .i64) (by simp), congrArg (Value.int .i64) (by simp), trivial⟩ (fun w' hw' => hw') (by simp only; omega)
        (repeat (first | exact Out.refl _ _ | exact Out.mix | (apply Out.upd; (· exact rfl)) | (apply Out.updL; (· exact rfl)) | (apply Out.mixs; (· exact rfl))))
      · have hx : l[j] ∈ hv := by rw [← hget]; assumption
        refine At.again (⟨i, j + 1, xs⟩ : Dst) (hD.skip hlt hx) ?_ ⟨rfl, congrArg (Value.int .i64) (by simp), trivial⟩ (fun w' hw' => hw') (by simp only; omega)
        (repeat (first | exact Out.refl _ _ | exact Out.mix | (apply Out.upd; (· exact rfl)) | (apply Out.updL; (· exact rfl)) | (apply Out.mixs; (· exact rfl))))
    · have hie : j = l.length := by omega
      have htk := hD.tk
      rw [hie, List.take_length] at htk
      have hil : (keepI hv l).length = i := by rw [← htk, List.length_take]; omega
      repeat'(first|(apply kp;iterate 2 exact rfl)|apply jJ|(apply jE;exact rfl)|(apply jp;exact rfl)|(apply jc;kernel_rfl)|((first|apply kf|apply kn|apply ke|apply kx|apply kc|apply kb);iterate 2 exact rfl)|((first|apply kz|apply ky);(·exact rfl);(·repeat(first|exact iO|exact iR rfl|apply iT));iterate 2 exact rfl)|(apply kg;iterate 2 exact rfl)|(apply kG;iterate 3 exact rfl)|(apply kB;(iterate 2 exact rfl);intro _)|(apply kA;exact rfl;intro _)|(apply Go.Hb.kK;(iterate 4 exact rfl);intro _)|(apply kU;(iterate 2 exact rfl);(·repeat(first|exact sH _ _ _|apply sT));(first|exact nfL_eq rfl|exact rfl);exact rfl)|((first|apply kh|apply kl);(iterate 2 exact rfl);(first|decide|omega);exact rfl)|(apply LR.ev; (· apply loQ (j := i) (q := l.length - i) rfl; (· exact rfl); (· exact rfl); (· omega)); (· exact rfl))|((first|(apply kR;iterate 2 exact rfl)|(apply kQ;exact rfl));all_goals(intro hc;try simp only[hcs]at hc;try(exfalso;first|contradiction|omega))))
      refine LR.clear (z := .int .i64 0) (n := l.length) (j := i) (xs := iv xs) rfl rfl (by (repeat (first | exact sH _ _ _ | apply sT))) (by omega) ?_
      repeat'(first|(apply kp;iterate 2 exact rfl)|apply jJ|(apply jE;exact rfl)|(apply jp;exact rfl)|(apply jc;kernel_rfl)|((first|apply kf|apply kn|apply ke|apply kx|apply kc|apply kb);iterate 2 exact rfl)|((first|apply kz|apply ky);(·exact rfl);(·repeat(first|exact iO|exact iR rfl|apply iT));iterate 2 exact rfl)|(apply kg;iterate 2 exact rfl)|(apply kG;iterate 3 exact rfl)|(apply kB;(iterate 2 exact rfl);intro _)|(apply kA;exact rfl;intro _)|(apply Go.Hb.kK;(iterate 4 exact rfl);intro _)|(apply kU;(iterate 2 exact rfl);(·repeat(first|exact sH _ _ _|apply sT));(first|exact nfL_eq rfl|exact rfl);exact rfl)|((first|apply kh|apply kl);(iterate 2 exact rfl);(first|decide|omega);exact rfl)|(apply LR.ev; (· apply hiQ (j := i); (· exact rfl); (· exact rfl); (· omega)); (· exact rfl))|((first|(apply kR;iterate 2 exact rfl)|(apply kQ;exact rfl));all_goals(intro hc;try simp only[hcs]at hc;try(exfalso;first|contradiction|omega))))
      (apply ret1; (· exact rfl); intro w' hS)
      have hsub : subA a c 0 1 = a := ownsAt_subA h
      refine ⟨xs.take i ++ List.replicate (l.length - i) 0, by simp; omega, ?_, ?_, ?_⟩
      · rw [hil, List.take_append_of_le_length (by simp; omega), List.take_take, Nat.min_self, htk]
      · rw [hil]; show Value.slice (subA a c 0 1) i c = _; rw [hsub]
      · have e : iv (xs.take i ++ List.replicate (l.length - i) 0) = (iv xs).take i ++ List.replicate (l.length - i) (Value.int .i64 0) := by unfold iv; simp
        rw [e]
        exact (front hS 2 rfl rfl).step rfl
/-- A token without what it asks for that is there. -/
def answerT (t : Tk) (hv : List Int) : Tk := { t with ask := keepI hv t.ask }
set_option maxHeartbeats 1000000 in
theorem t46 (t : Tk) (a : Option Addr) (c : Nat) (ah : Option Addr) (ch : Nat) (hv : List Int) (w : World) (hr : Rd w a (iv t.ask)) (hz : a = none → c = 0) (hm : t.ask.length ≤ 17592186043904) (hh : Rd w ah (iv hv)) (hmh : hv.length ≤ 17592186043904) :
    CallsTo Try.prog 46 [t.val a c, .slice ah hv.length ch] w fun v w' => ∃ a' c', v = (answerT t hv).val a' c' ∧ NewOd w w' (.slice a' (keepI hv t.ask).length c') 3 1 (keepI hv t.ask).length (iv (keepI hv t.ask)) := by
  refine go_in (n := 12) (St.rd2 hr hh) Try.func46 rfl rfl ?_
  repeat'(first|(apply kB;(iterate 2 exact rfl);(first|(have := b2;clear this;intro b3)|intro b2))|(apply kp;iterate 2 exact rfl)|apply jJ|(apply jE;exact rfl)|(apply jp;exact rfl)|(apply jc;kernel_rfl)|((first|apply kf|apply kn|apply ke|apply kx|apply kc|apply kb);iterate 2 exact rfl)|((first|apply kz|apply ky);(·exact rfl);(·repeat(first|exact iO|exact iR rfl|apply iT));iterate 2 exact rfl)|(apply kg;iterate 2 exact rfl)|(apply kG;iterate 3 exact rfl)|(apply kB;(iterate 2 exact rfl);intro _)|(apply kA;exact rfl;intro _)|(apply Go.Hb.kK;(iterate 4 exact rfl);intro _)|(apply kU;(iterate 2 exact rfl);(·repeat(first|exact sH _ _ _|apply sT));(first|exact nfL_eq rfl|exact rfl);exact rfl)|((first|apply kh|apply kl);(iterate 2 exact rfl);(first|decide|omega);exact rfl)|((first|(apply kR;iterate 2 exact rfl)|(apply kQ;exact rfl));all_goals(intro hc;try simp only[hcs]at hc;try(exfalso;first|contradiction|omega))))
  apply LR.call
  · exact rfl
  intro w1 h1
  refine (t52 a c t.ask w1 (h1.rd_of (by (repeat (first | exact mH _ _ | apply mT)))) hz hm).mono ?_
  rintro v w2 ⟨a1, c1, rfl, hn⟩
  refine LR.back (St.osl_odl (h1.newSl hn) (Sel.head _ _ _)) ?_
  clear hn h1
  repeat'(first|(apply kp;iterate 2 exact rfl)|apply jJ|(apply jE;exact rfl)|(apply jp;exact rfl)|(apply jc;kernel_rfl)|((first|apply kf|apply kn|apply ke|apply kx|apply kc|apply kb);iterate 2 exact rfl)|((first|apply kz|apply ky);(·exact rfl);(·repeat(first|exact iO|exact iR rfl|apply iT));iterate 2 exact rfl)|(apply kg;iterate 2 exact rfl)|(apply kG;iterate 3 exact rfl)|(apply kB;(iterate 2 exact rfl);intro _)|(apply kA;exact rfl;intro _)|(apply Go.Hb.kK;(iterate 4 exact rfl);intro _)|(apply kU;(iterate 2 exact rfl);(·repeat(first|exact sH _ _ _|apply sT));(first|exact nfL_eq rfl|exact rfl);exact rfl)|((first|apply kh|apply kl);(iterate 2 exact rfl);(first|decide|omega);exact rfl)|(apply LR.ev; (· apply Ev.makeFunc); (· exact rfl))|((first|(apply kR;iterate 2 exact rfl)|(apply kQ;exact rfl));all_goals(intro hc;try simp only[hcs]at hc;try(exfalso;first|contradiction|omega))))
  apply LR.call
  · exact rfl
  intro w1 h1
  refine CallsTo.mono (t66 b3 ah ch hv a1 c1 t.ask w1 (h1.holds (idl a1 c1 t.ask) (by (repeat (first | exact mH _ _ | apply mT)))) (h1.rd_of_blk (by (repeat (first | exact mH _ _ | apply mT)))) ?_ (h1.rd_of (by (repeat (first | exact mH _ _ | apply mT)))) ?_ hmh hm) ?_
  · intro k hk hk2
    have := h1.apart (x := idl a1 c1 t.ask) (y := .own b3 (.cells (hvC ah ch hv).toArray 24 (0, 0))) (by (repeat (first | exact mH _ _ | apply mT))) rfl k hk2
    refine this ?_
    obtain ⟨_, ad, he, hkb⟩ := hk
    cases he
    exact hkb
  · intro k hk hk2
    exact h1.apart (x := idl a1 c1 t.ask) (y := rdA ah (iv hv)) (by (repeat (first | exact mH _ _ | apply mT))) rfl k hk2 hk
  rintro v w2 ⟨xs, hxl, hxt, rfl, st⟩
  refine LR.back (h1.did (by (repeat (first | exact sH _ _ _ | apply sT))) rfl st (odl.dep _ _ _ _ _)) ?_
  clear st h1
  repeat'(first|(apply kp;iterate 2 exact rfl)|apply jJ|(apply jE;exact rfl)|(apply jp;exact rfl)|(apply jc;kernel_rfl)|((first|apply kf|apply kn|apply ke|apply kx|apply kc|apply kb);iterate 2 exact rfl)|((first|apply kz|apply ky);(·exact rfl);(·repeat(first|exact iO|exact iR rfl|apply iT));iterate 2 exact rfl)|(apply kg;iterate 2 exact rfl)|(apply kG;iterate 3 exact rfl)|(apply kB;(iterate 2 exact rfl);intro _)|(apply kA;exact rfl;intro _)|(apply Go.Hb.kK;(iterate 4 exact rfl);intro _)|(apply kU;(iterate 2 exact rfl);(·repeat(first|exact sH _ _ _|apply sT));(first|exact nfL_eq rfl|exact rfl);exact rfl)|((first|apply kh|apply kl);(iterate 2 exact rfl);(first|decide|omega);exact rfl)|((first|(apply kR;iterate 2 exact rfl)|(apply kQ;exact rfl));all_goals(intro hc;try simp only[hcs]at hc;try(exfalso;first|contradiction|omega))))
  (apply ret1c; (· exact rfl); (· exact inferInstance); (· exact rfl); (· (repeat (first | exact List.Mem.head _ | apply List.Mem.tail))); (· exact rfl); intro w' hS)
  have h2 := ownsAt_take (l := (keepI hv t.ask).length) (hS.holds (odl (.slice a1 t.ask.length c1) 3 1 t.ask.length (iv xs)) (by (repeat (first | exact mH _ _ | apply mT)))) (keepI_len _ _)
  have e : (iv xs).take ((keepI hv t.ask).length * 1) = iv (keepI hv t.ask) := by
    rw [Nat.mul_one]
    unfold iv
    rw [← List.map_take, hxt]
  rw [e] at h2
  refine ⟨a1, c1, rfl, hS.toKeep, h2, fun k hk => ⟨Nat.le_of_not_lt fun hlt => hS.mine (odl (.slice a1 t.ask.length c1) 3 1 t.ask.length (iv xs)) (by (repeat (first | exact mH _ _ | apply mT))) rfl k (by cases a1 with | none => cases hk | some ad => exact hk) hlt, ownsAt_lt h2 hk⟩⟩
end Go.Proofs.Ythmmmbphknoagaa

namespace Go.Proofs.Ythmmmbphknoagaa
open Go.Hb
attribute [local irreducible] LR CW At Ev thn blk finK noG again CallsTo DW QL dnext
set_option linter.unusedSimpArgs false
set_option linter.unusedVariables false
set_option maxRecDepth 100000

theorem keep_tok {t : Tk} (hv : List Int) (h : tokE t = 0) : tokE (answerT t hv) = 0 := by
  have hb := tok_b h
  have : tokB (answerT t hv) = true := by
    unfold tokB at hb ⊢
    rw [Bool.and_eq_true, askB_iff] at hb ⊢
    obtain ⟨h1, h2, h3⟩ := hb
    refine ⟨?_, h2.sublist (List.filter_sublist), fun x hx => h3 x ((List.mem_filter.1 hx).1)⟩
    unfold Tk.headB at h1 ⊢
    simp only [Bool.and_eq_true, decide_eq_true_eq] at h1 ⊢
    have := keepI_len hv t.ask
    exact ⟨h1.1, by show (keepI hv t.ask).length ≤ 16; omega⟩
  unfold tokE
  rw [if_pos this]
theorem may_one {t : Tk} (h : tokE t = 0) (h2 : ¬t.hop = 9007199254740991) : mayV t 1 0 = true := by
  unfold mayV withinB
  rw [tok_b h]
  simp [h2]
set_option maxHeartbeats 4000000 in
theorem t10 (t : Tk) (a : Option Addr) (c : Nat) (ag : Option Addr) (cg : Nat) (gp : List Int) (ah : Option Addr) (ch : Nat) (hv : List Int) (w : World) (hr : Rd w a (iv t.ask)) (hz : a = none → c = 0) (hm : t.ask.length ≤ 17592186043904) (hrg : Rd w ag (iv gp)) (hmg : gp.length ≤ 17592186043904) (hrh : Rd w ah (iv hv)) (hmh : hv.length ≤ 17592186043904) :
    CallsTo Try.prog 10 [t.val a c, .slice ag gp.length cg, .slice ah hv.length ch] w fun u w' => u = .bool true ∧ Grew w w' := by
  refine go_in (n := 131) ((St.rd2 hr hrg).addRd hrh (fun _ _ h => h)) Try.func10 rfl rfl ?_
  repeat'(first|(apply kB;(iterate 2 exact rfl);intro b2)|(apply kp;iterate 2 exact rfl)|apply jJ|(apply jE;exact rfl)|(apply jp;exact rfl)|(apply jc;kernel_rfl)|((first|apply kf|apply kn|apply ke|apply kx|apply kc|apply kb);iterate 2 exact rfl)|((first|apply kz|apply ky);(·exact rfl);(·repeat(first|exact iO|exact iR rfl|apply iT));iterate 2 exact rfl)|(apply kg;iterate 2 exact rfl)|(apply kG;iterate 3 exact rfl)|(apply kB;(iterate 2 exact rfl);intro _)|(apply kA;exact rfl;intro _)|(apply Go.Hb.kK;(iterate 4 exact rfl);intro _)|(apply kU;(iterate 2 exact rfl);(·repeat(first|exact sH _ _ _|apply sT));(first|exact nfL_eq rfl|exact rfl);exact rfl)|((first|apply kh|apply kl);(iterate 2 exact rfl);(first|decide|omega);exact rfl)|(apply kq; (· exact rfl); (· intro w1 h1; first | exact CallsTo.q (t20 w1) h1 | exact CallsTo.q (t16 t a c w1 (h1.rd_of (by (repeat (first | exact mH _ _ | apply mT)))) (by omega)) h1))|((first|(apply kR;iterate 2 exact rfl)|(apply kQ;exact rfl));all_goals(intro hc;try simp only[hcs]at hc;try(exfalso;first|contradiction|omega))))
  · (apply ret1; (· exact rfl); intro w' hS)
    exact ⟨rfl, hS.toKeep⟩
  · (apply ret1; (· exact rfl); intro w' hS)
    exact ⟨rfl, hS.toKeep⟩
  have hE : tokE t = 0 := by assumption
  have hmay : mayV t 1 0 = true := may_one hE (by assumption)
  have hR1 : tokE (visitT t 1 0 gp) = 0 := by unfold tokE; exact if_pos (tokB_visit hmay).1
  have hRa : (visitT t 1 0 gp).ask = askV t gp := by unfold visitT; rw [if_pos hmay]
  have hR2 : ∀ x ∈ (visitT t 1 0 gp).ask, x ∈ t.ask ∨ x ∈ gp := fun x hx => by rw [hRa] at hx; exact (askV_mem hx).imp id And.left
  have hR3 : t.ask.length ≤ (visitT t 1 0 gp).ask.length := by rw [hRa]; exact askV_ge gp (tok_b hE)
  have hR4 : (visitT t 1 0 gp).ask.length ≤ 16 := by rw [hRa]; exact askV_len _ _
  have hR5 : ∀ x ∈ gp, 1 ≤ x → x ≤ t.seq → (visitT t 1 0 gp).ask.length < 16 → x ∈ (visitT t 1 0 gp).ask := fun x hx h1 h2 h3 => by
    rw [hRa] at h3 ⊢
    exact askV_all hx (by unfold withinB; simp [h1, h2]) h3
  have h14 := fun w1 => t14 t a c 1 0 ag cg gp w1
  generalize visitT t 1 0 gp = R at hR1 hRa hR2 hR3 hR4 hR5 h14
  have hS1 := keep_tok hv hR1
  have hkl := keepI_len hv R.ask
  apply LR.call
  · exact rfl
  intro w1 h1
  refine (h14 w1 (h1.rd_of (by (repeat (first | exact mH _ _ | apply mT)))) hz hm (h1.rd_of (by (repeat (first | exact mH _ _ | apply mT)))) hmg).mono ?_
  rintro v w2 ⟨a3, c3, rfl, hn⟩
  have hz3 := ownsAt_nz hn.own
  have hf3 := fun h => (ownsAt_rd hn.own).form h
  refine LR.back (St.newOd h1 hn) ?_
  clear hn h1
  repeat'(first|(apply kp;iterate 2 exact rfl)|apply jJ|(apply jE;exact rfl)|(apply jp;exact rfl)|(apply jc;kernel_rfl)|((first|apply kf|apply kn|apply ke|apply kx|apply kc|apply kb);iterate 2 exact rfl)|((first|apply kz|apply ky);(·exact rfl);(·repeat(first|exact iO|exact iR rfl|apply iT));iterate 2 exact rfl)|(apply kg;iterate 2 exact rfl)|(apply kG;iterate 3 exact rfl)|(apply kB;(iterate 2 exact rfl);intro _)|(apply kA;exact rfl;intro _)|(apply Go.Hb.kK;(iterate 4 exact rfl);intro _)|(apply kU;(iterate 2 exact rfl);(·repeat(first|exact sH _ _ _|apply sT));(first|exact nfL_eq rfl|exact rfl);exact rfl)|((first|apply kh|apply kl);(iterate 2 exact rfl);(first|decide|omega);exact rfl)|((first|(apply kR;iterate 2 exact rfl)|(apply kQ;exact rfl));all_goals(intro hc;try simp only[hcs]at hc;try(exfalso;first|contradiction|omega))))
  apply LR.call
  · exact rfl
  intro w1 h1
  refine (t46 R a3 c3 ah ch hv w1 (h1.rd_of_odl (by (repeat (first | exact mH _ _ | apply mT)))) hz3 (by omega) (h1.rd_of (by (repeat (first | exact mH _ _ | apply mT)))) hmh).mono ?_
  rintro v w2 ⟨a4, c4, rfl, hn⟩
  refine LR.back (St.newOd h1 hn) ?_
  clear hn h1
  repeat'(first|(apply kp;iterate 2 exact rfl)|apply jJ|(apply jE;exact rfl)|(apply jp;exact rfl)|(apply jc;kernel_rfl)|((first|apply kf|apply kn|apply ke|apply kx|apply kc|apply kb);iterate 2 exact rfl)|((first|apply kz|apply ky);(·exact rfl);(·repeat(first|exact iO|exact iR rfl|apply iT));iterate 2 exact rfl)|(apply kg;iterate 2 exact rfl)|(apply kG;iterate 3 exact rfl)|(apply kB;(iterate 2 exact rfl);intro _)|(apply kA;exact rfl;intro _)|(apply Go.Hb.kK;(iterate 4 exact rfl);intro _)|(apply kU;(iterate 2 exact rfl);(·repeat(first|exact sH _ _ _|apply sT));(first|exact nfL_eq rfl|exact rfl);exact rfl)|((first|apply kh|apply kl);(iterate 2 exact rfl);(first|decide|omega);exact rfl)|(apply kq; (· exact rfl); (· intro w1 h1; first | (have hq := CallsTo.q (t16 R a3 c3 w1 (h1.rd_of_odl (by (repeat (first | exact mH _ _ | apply mT)))) (by omega)) h1; rw [hR1] at hq; exact hq) | (have hq := CallsTo.q (t16 (answerT R hv) a4 c4 w1 (h1.rd_of_odl (by (repeat (first | exact mH _ _ | apply mT)))) (by show (keepI hv R.ask).length ≤ _; omega)) h1; rw [hS1] at hq; exact hq)))|((first|(apply kR;iterate 2 exact rfl)|(apply kQ;exact rfl));all_goals(intro hc;try simp only[hcs]at hc;try(exfalso;first|contradiction|omega))))
  rename_i wa wb p7 p8 _
  apply CW.loop [6, 9, 10, 51, 52, 53, 54, 55, 56, 57, 58, 59, 60, 61, 62, 63, 64, 65, 66, 67, 68, 69, 70, 71, 72, 73, 74, 75, 76, 77, 78, 79, 80, 81, 82, 83, 84, 85, 86, 87, 88, 89, 90, 91, 92, 93, 94] (fun i : Nat => i ≤ R.ask.length) (fun i => [(9, .int .i64 (i : Int))])
    (fun i => St w NoF [tkI p8 (answerT R hv) a4 c4, odl (.slice a4 (keepI hv R.ask).length c4) 3 1 (keepI hv R.ask).length (iv (keepI hv R.ask)), tkI p7 R a3 c3, odl (.slice a3 R.ask.length c3) 3 1 R.ask.length (iv R.ask), tkI b2 t a c, rdA ah (iv hv), rdA a (iv t.ask), rdA ag (iv gp)]) (fun i => R.ask.length - i)
  · exact fun w' hw' => ⟨0, by omega, ⟨rfl, trivial⟩, hw'⟩
  intro i g1 hi
  by_cases hlt : i < R.ask.length
  · obtain ⟨ba, oa, rfl⟩ := hf3 (fun e => by have := congrArg List.length e; simp at this; simp [this] at hlt)
    have hmem := hR2 R.ask[i] (List.getElem_mem hlt)
    have hbool : decide (R.ask[i] ∈ keepI hv R.ask) = !decide (R.ask[i] ∈ hv) := by
      unfold keepI
      rw [Bool.eq_iff_iff]
      simp [List.mem_filter]
    have hnot : ∀ b : Bool, ¬(!b) = b := fun b => by cases b <;> decide
    have hidx : ∀ q, q = i → (iv R.ask)[q]? = some (.int .i64 R.ask[i]) := fun q hq => iv_at hq hlt
    generalize R.ask[i] = x at hmem hbool hidx
    repeat'(first|(apply CW.reg_heldC)|(apply kp;iterate 2 exact rfl)|apply jJ|(apply jE;exact rfl)|(apply jp;exact rfl)|(apply jc;kernel_rfl)|((first|apply kf|apply kn|apply ke|apply kx|apply kc|apply kb);iterate 2 exact rfl)|((first|apply kz|apply ky);(·exact rfl);(·repeat(first|exact iO|exact iR rfl|apply iT));iterate 2 exact rfl)|(apply kg;iterate 2 exact rfl)|(apply kG;iterate 3 exact rfl)|(apply kB;(iterate 2 exact rfl);intro _)|(apply kA;exact rfl;intro _)|(apply Go.Hb.kK;(iterate 4 exact rfl);intro _)|(apply kU;(iterate 2 exact rfl);(·repeat(first|exact sH _ _ _|apply sT));(first|exact nfL_eq rfl|exact rfl);exact rfl)|((first|apply kh|apply kl);(iterate 2 exact rfl);(first|decide|omega);exact rfl)|((first|(apply kR;iterate 2 exact rfl)|(apply kQ;exact rfl));all_goals(intro hc;try simp only[hcs]at hc;try(exfalso;first|contradiction|omega))))
    all_goals (
      apply DW.quiet [0, 1, 2, 3, 4, 5, 6]
      · decide +kernel
      · first | exact fun _ h => h | exact fun _ h => St.sub h (by repeat (first | exact List.Sublist.refl _ | apply List.Sublist.cons_cons | apply List.Sublist.cons))
      repeat'(first|(apply yp;iterate 3 exact rfl)|(apply QL.ev;(·exact rfl);(·first|((first|apply Ez|apply Ey);(·exact rfl);(·repeat(first|exact iO|exact iR rfl|apply iT));exact rfl)|((first|apply Ev.fieldAddr|apply Ev.len|apply EqOf.eq|apply EqOf.ne|apply Ev.conv|apply Ev.buildN);exact rfl)|((first|apply Ev.shr|apply Ev.shl);(iterate 2 exact rfl);first|decide|omega));·exact rfl)|(apply QL.ev; (· exact rfl); (· first | (apply Ev.indexAddr; (· exact rfl); (· exact rfl); (· omega); (· omega)) | (apply Ev.load_odl; (· exact rfl); (· (repeat (first | exact mH _ _ | apply mT))); (· refine hidx _ ?_; simp; done)) | (apply Ev.load_rd; (· exact rfl); (· (repeat (first | exact mH _ _ | apply mT))); (· refine hidx _ ?_; simp; done))); (· exact rfl))|(apply QL.evg; (iterate 3 exact rfl); (· first | (apply Ev.indexAddr; (· exact rfl); (· exact rfl); (· omega); (· omega)) | (apply Ev.load_odl; (· exact rfl); (· (repeat (first | exact mH _ _ | apply mT))); (· refine hidx _ ?_; simp; done)) | (apply Ev.load_rd; (· exact rfl); (· (repeat (first | exact mH _ _ | apply mT))); (· refine hidx _ ?_; simp; done))); (· exact rfl))|(apply yq;iterate 5 exact rfl)|(apply QL.evg;(iterate 3 exact rfl);(·first|((first|apply Ez|apply Ey);(·exact rfl);(·repeat(first|exact iO|exact iR rfl|apply iT));exact rfl)|((first|apply Ev.fieldAddr|apply Ev.len|apply EqOf.eq|apply EqOf.ne|apply Ev.conv|apply Ev.buildN);exact rfl)|((first|apply Ev.shr|apply Ev.shl);(iterate 2 exact rfl);first|decide|omega));·exact rfl)|(apply yn;iterate 4 exact rfl)|((apply QL.split;iterate 3 exact rfl);all_goals(intro hc;try simp only[hcs]at hc;try(exfalso;first|contradiction|omega)))|apply QL.nil)
      all_goals (show DW _ _ _ _ _ _ _ _))
    all_goals (
      apply DW.loud 7
      · exact rfl
      · decide +kernel
      repeat'(first|(apply kg;iterate 2 exact rfl)|(apply kG;iterate 3 exact rfl)|apply kM|(apply kp;iterate 2 exact rfl)|((first|apply kz|apply ky);(·exact rfl);(·repeat(first|exact iO|exact iR rfl|apply iT));iterate 2 exact rfl)|(apply Go.Hb.kK;(iterate 4 exact rfl);intro _)|(apply kU;(iterate 2 exact rfl);(·repeat(first|exact sH _ _ _|apply sT));(first|exact nfL_eq rfl|exact rfl);exact rfl)|(apply kB;(iterate 2 exact rfl);intro _)|(apply kA;exact rfl;intro _)|(apply kq; (· exact rfl); (· intro w1 h1; first | exact CallsTo.q (t47 a c t.ask x w1 (h1.rd_of (by (repeat (first | exact mH _ _ | apply mT)))) hm) h1 | exact CallsTo.q (t47 ag cg gp x w1 (h1.rd_of (by (repeat (first | exact mH _ _ | apply mT)))) hmg) h1 | (have hq := CallsTo.q (t47 a4 c4 (keepI hv R.ask) x w1 (h1.rd_of_odl (by (repeat (first | exact mH _ _ | apply mT)))) (by omega)) h1; rw [hbool] at hq; exact hq) | exact CallsTo.q (t47 ah ch hv x w1 (h1.rd_of (by (repeat (first | exact mH _ _ | apply mT)))) hmh) h1)))
      all_goals (refine At.stage_same (fun _ h => St.sub h (by repeat (first | exact List.Sublist.refl _ | apply List.Sublist.cons_cons | apply List.Sublist.cons))) ?_))
    all_goals (
      apply DW.quiet [8, 9, 10, 11, 12, 13, 14]
      · decide +kernel
      · first | exact fun _ h => h | exact fun _ h => St.sub h (by repeat (first | exact List.Sublist.refl _ | apply List.Sublist.cons_cons | apply List.Sublist.cons))
      repeat'(first|(apply yp;iterate 3 exact rfl)|(apply QL.ev;(·exact rfl);(·first|((first|apply Ez|apply Ey);(·exact rfl);(·repeat(first|exact iO|exact iR rfl|apply iT));exact rfl)|((first|apply Ev.fieldAddr|apply Ev.len|apply EqOf.eq|apply EqOf.ne|apply Ev.conv|apply Ev.buildN);exact rfl)|((first|apply Ev.shr|apply Ev.shl);(iterate 2 exact rfl);first|decide|omega));·exact rfl)|(apply QL.ev; (· exact rfl); (· first | (apply Ev.indexAddr; (· exact rfl); (· exact rfl); (· omega); (· omega)) | (apply Ev.load_odl; (· exact rfl); (· (repeat (first | exact mH _ _ | apply mT))); (· refine hidx _ ?_; simp; done)) | (apply Ev.load_rd; (· exact rfl); (· (repeat (first | exact mH _ _ | apply mT))); (· refine hidx _ ?_; simp; done))); (· exact rfl))|(apply QL.evg; (iterate 3 exact rfl); (· first | (apply Ev.indexAddr; (· exact rfl); (· exact rfl); (· omega); (· omega)) | (apply Ev.load_odl; (· exact rfl); (· (repeat (first | exact mH _ _ | apply mT))); (· refine hidx _ ?_; simp; done)) | (apply Ev.load_rd; (· exact rfl); (· (repeat (first | exact mH _ _ | apply mT))); (· refine hidx _ ?_; simp; done))); (· exact rfl))|(apply yq;iterate 5 exact rfl)|(apply QL.evg;(iterate 3 exact rfl);(·first|((first|apply Ez|apply Ey);(·exact rfl);(·repeat(first|exact iO|exact iR rfl|apply iT));exact rfl)|((first|apply Ev.fieldAddr|apply Ev.len|apply EqOf.eq|apply EqOf.ne|apply Ev.conv|apply Ev.buildN);exact rfl)|((first|apply Ev.shr|apply Ev.shl);(iterate 2 exact rfl);first|decide|omega));·exact rfl)|(apply yn;iterate 4 exact rfl)|((apply QL.split;iterate 3 exact rfl);all_goals(intro hc;try simp only[hcs]at hc;try(exfalso;first|contradiction|omega)))|apply QL.nil)
      all_goals (show DW _ _ _ _ _ _ _ _))
    all_goals (
      apply DW.loud 15
      · exact rfl
      · decide +kernel
      repeat'(first|(apply kg;iterate 2 exact rfl)|(apply kG;iterate 3 exact rfl)|apply kM|(apply kp;iterate 2 exact rfl)|((first|apply kz|apply ky);(·exact rfl);(·repeat(first|exact iO|exact iR rfl|apply iT));iterate 2 exact rfl)|(apply Go.Hb.kK;(iterate 4 exact rfl);intro _)|(apply kU;(iterate 2 exact rfl);(·repeat(first|exact sH _ _ _|apply sT));(first|exact nfL_eq rfl|exact rfl);exact rfl)|(apply kB;(iterate 2 exact rfl);intro _)|(apply kA;exact rfl;intro _)|(apply kq; (· exact rfl); (· intro w1 h1; first | exact CallsTo.q (t47 a c t.ask x w1 (h1.rd_of (by (repeat (first | exact mH _ _ | apply mT)))) hm) h1 | exact CallsTo.q (t47 ag cg gp x w1 (h1.rd_of (by (repeat (first | exact mH _ _ | apply mT)))) hmg) h1 | (have hq := CallsTo.q (t47 a4 c4 (keepI hv R.ask) x w1 (h1.rd_of_odl (by (repeat (first | exact mH _ _ | apply mT)))) (by omega)) h1; rw [hbool] at hq; exact hq) | exact CallsTo.q (t47 ah ch hv x w1 (h1.rd_of (by (repeat (first | exact mH _ _ | apply mT)))) hmh) h1)))
      all_goals (refine At.stage_same (fun _ h => St.sub h (by repeat (first | exact List.Sublist.refl _ | apply List.Sublist.cons_cons | apply List.Sublist.cons))) ?_))
    all_goals (
      apply DW.quiet [16, 17]
      · decide +kernel
      · first | exact fun _ h => h | exact fun _ h => St.sub h (by repeat (first | exact List.Sublist.refl _ | apply List.Sublist.cons_cons | apply List.Sublist.cons))
      repeat'(first|(apply yp;iterate 3 exact rfl)|(apply QL.ev;(·exact rfl);(·first|((first|apply Ez|apply Ey);(·exact rfl);(·repeat(first|exact iO|exact iR rfl|apply iT));exact rfl)|((first|apply Ev.fieldAddr|apply Ev.len|apply EqOf.eq|apply EqOf.ne|apply Ev.conv|apply Ev.buildN);exact rfl)|((first|apply Ev.shr|apply Ev.shl);(iterate 2 exact rfl);first|decide|omega));·exact rfl)|(apply QL.ev; (· exact rfl); (· first | (apply Ev.indexAddr; (· exact rfl); (· exact rfl); (· omega); (· omega)) | (apply Ev.load_odl; (· exact rfl); (· (repeat (first | exact mH _ _ | apply mT))); (· refine hidx _ ?_; simp; done)) | (apply Ev.load_rd; (· exact rfl); (· (repeat (first | exact mH _ _ | apply mT))); (· refine hidx _ ?_; simp; done))); (· exact rfl))|(apply QL.evg; (iterate 3 exact rfl); (· first | (apply Ev.indexAddr; (· exact rfl); (· exact rfl); (· omega); (· omega)) | (apply Ev.load_odl; (· exact rfl); (· (repeat (first | exact mH _ _ | apply mT))); (· refine hidx _ ?_; simp; done)) | (apply Ev.load_rd; (· exact rfl); (· (repeat (first | exact mH _ _ | apply mT))); (· refine hidx _ ?_; simp; done))); (· exact rfl))|(apply yq;iterate 5 exact rfl)|(apply QL.evg;(iterate 3 exact rfl);(·first|((first|apply Ez|apply Ey);(·exact rfl);(·repeat(first|exact iO|exact iR rfl|apply iT));exact rfl)|((first|apply Ev.fieldAddr|apply Ev.len|apply EqOf.eq|apply EqOf.ne|apply Ev.conv|apply Ev.buildN);exact rfl)|((first|apply Ev.shr|apply Ev.shl);(iterate 2 exact rfl);first|decide|omega));·exact rfl)|(apply yn;iterate 4 exact rfl)|((apply QL.split;iterate 3 exact rfl);all_goals(intro hc;try simp only[hcs]at hc;try(exfalso;first|contradiction|omega)))|apply QL.nil)
      all_goals (show DW _ _ _ _ _ _ _ _))
    all_goals (first | (apply DW.done_thn; (· decide +kernel)) | (apply DW.done; (· decide +kernel)))
    all_goals (
      repeat'(first|(apply CW.reg_heldC)|(apply kp;iterate 2 exact rfl)|apply jJ|(apply jE;exact rfl)|(apply jp;exact rfl)|(apply jc;kernel_rfl)|((first|apply kf|apply kn|apply ke|apply kx|apply kc|apply kb);iterate 2 exact rfl)|((first|apply kz|apply ky);(·exact rfl);(·repeat(first|exact iO|exact iR rfl|apply iT));iterate 2 exact rfl)|(apply kg;iterate 2 exact rfl)|(apply kG;iterate 3 exact rfl)|(apply kB;(iterate 2 exact rfl);intro _)|(apply kA;exact rfl;intro _)|(apply Go.Hb.kK;(iterate 4 exact rfl);intro _)|(apply kU;(iterate 2 exact rfl);(·repeat(first|exact sH _ _ _|apply sT));(first|exact nfL_eq rfl|exact rfl);exact rfl)|((first|apply kh|apply kl);(iterate 2 exact rfl);(first|decide|omega);exact rfl)|((first|(apply kR;iterate 2 exact rfl)|(apply kQ;exact rfl));all_goals(intro hc;try simp only[hcs]at hc;try(exfalso;first|contradiction|omega))))
      skip)
    all_goals (
      all_goals (
        apply DW.quiet [0, 1, 2, 3, 4, 5, 6, 7, 8, 9, 11, 12, 13, 14, 15, 16]
        · decide +kernel
        · first | exact fun _ h => h | exact fun _ h => St.sub h (by repeat (first | exact List.Sublist.refl _ | apply List.Sublist.cons_cons | apply List.Sublist.cons))
        repeat'(first|(apply yp;iterate 3 exact rfl)|(apply QL.ev;(·exact rfl);(·first|((first|apply Ez|apply Ey);(·exact rfl);(·repeat(first|exact iO|exact iR rfl|apply iT));exact rfl)|((first|apply Ev.fieldAddr|apply Ev.len|apply EqOf.eq|apply EqOf.ne|apply Ev.conv|apply Ev.buildN);exact rfl)|((first|apply Ev.shr|apply Ev.shl);(iterate 2 exact rfl);first|decide|omega));·exact rfl)|(apply QL.ev; (· exact rfl); (· first | (apply Ev.indexAddr; (· exact rfl); (· exact rfl); (· omega); (· omega)) | (apply Ev.load_odl; (· exact rfl); (· (repeat (first | exact mH _ _ | apply mT))); (· refine hidx _ ?_; simp; done)) | (apply Ev.load_rd; (· exact rfl); (· (repeat (first | exact mH _ _ | apply mT))); (· refine hidx _ ?_; simp; done))); (· exact rfl))|(apply QL.evg; (iterate 3 exact rfl); (· first | (apply Ev.indexAddr; (· exact rfl); (· exact rfl); (· omega); (· omega)) | (apply Ev.load_odl; (· exact rfl); (· (repeat (first | exact mH _ _ | apply mT))); (· refine hidx _ ?_; simp; done)) | (apply Ev.load_rd; (· exact rfl); (· (repeat (first | exact mH _ _ | apply mT))); (· refine hidx _ ?_; simp; done))); (· exact rfl))|(apply yq;iterate 5 exact rfl)|(apply QL.evg;(iterate 3 exact rfl);(·first|((first|apply Ez|apply Ey);(·exact rfl);(·repeat(first|exact iO|exact iR rfl|apply iT));exact rfl)|((first|apply Ev.fieldAddr|apply Ev.len|apply EqOf.eq|apply EqOf.ne|apply Ev.conv|apply Ev.buildN);exact rfl)|((first|apply Ev.shr|apply Ev.shl);(iterate 2 exact rfl);first|decide|omega));·exact rfl)|(apply yn;iterate 4 exact rfl)|((apply QL.split;iterate 3 exact rfl);all_goals(intro hc;try simp only[hcs]at hc;try(exfalso;first|contradiction|omega)))|apply QL.nil)
        all_goals (show DW _ _ _ _ _ _ _ _))
      all_goals (
        apply DW.loud 10
        · exact rfl
        · decide +kernel
        repeat'(first|(apply kg;iterate 2 exact rfl)|(apply kG;iterate 3 exact rfl)|apply kM|(apply kp;iterate 2 exact rfl)|((first|apply kz|apply ky);(·exact rfl);(·repeat(first|exact iO|exact iR rfl|apply iT));iterate 2 exact rfl)|(apply Go.Hb.kK;(iterate 4 exact rfl);intro _)|(apply kU;(iterate 2 exact rfl);(·repeat(first|exact sH _ _ _|apply sT));(first|exact nfL_eq rfl|exact rfl);exact rfl)|(apply kB;(iterate 2 exact rfl);intro _)|(apply kA;exact rfl;intro _)|(apply kq; (· exact rfl); (· intro w1 h1; first | exact CallsTo.q (t47 a c t.ask x w1 (h1.rd_of (by (repeat (first | exact mH _ _ | apply mT)))) hm) h1 | exact CallsTo.q (t47 ag cg gp x w1 (h1.rd_of (by (repeat (first | exact mH _ _ | apply mT)))) hmg) h1 | (have hq := CallsTo.q (t47 a4 c4 (keepI hv R.ask) x w1 (h1.rd_of_odl (by (repeat (first | exact mH _ _ | apply mT)))) (by omega)) h1; rw [hbool] at hq; exact hq) | exact CallsTo.q (t47 ah ch hv x w1 (h1.rd_of (by (repeat (first | exact mH _ _ | apply mT)))) hmh) h1)))
        all_goals (refine At.stage_same (fun _ h => St.sub h (by repeat (first | exact List.Sublist.refl _ | apply List.Sublist.cons_cons | apply List.Sublist.cons))) ?_))
      all_goals (
        apply DW.loud 17
        · exact rfl
        · decide +kernel
        repeat'(first|(apply kg;iterate 2 exact rfl)|(apply kG;iterate 3 exact rfl)|apply kM|(apply kp;iterate 2 exact rfl)|((first|apply kz|apply ky);(·exact rfl);(·repeat(first|exact iO|exact iR rfl|apply iT));iterate 2 exact rfl)|(apply Go.Hb.kK;(iterate 4 exact rfl);intro _)|(apply kU;(iterate 2 exact rfl);(·repeat(first|exact sH _ _ _|apply sT));(first|exact nfL_eq rfl|exact rfl);exact rfl)|(apply kB;(iterate 2 exact rfl);intro _)|(apply kA;exact rfl;intro _)|(apply kq; (· exact rfl); (· intro w1 h1; first | exact CallsTo.q (t47 a c t.ask x w1 (h1.rd_of (by (repeat (first | exact mH _ _ | apply mT)))) hm) h1 | exact CallsTo.q (t47 ag cg gp x w1 (h1.rd_of (by (repeat (first | exact mH _ _ | apply mT)))) hmg) h1 | (have hq := CallsTo.q (t47 a4 c4 (keepI hv R.ask) x w1 (h1.rd_of_odl (by (repeat (first | exact mH _ _ | apply mT)))) (by omega)) h1; rw [hbool] at hq; exact hq) | exact CallsTo.q (t47 ah ch hv x w1 (h1.rd_of (by (repeat (first | exact mH _ _ | apply mT)))) hmh) h1)))
        all_goals (refine At.stage_same (fun _ h => St.sub h (by repeat (first | exact List.Sublist.refl _ | apply List.Sublist.cons_cons | apply List.Sublist.cons))) ?_))
      all_goals (
        apply DW.quiet [18, 19]
        · decide +kernel
        · first | exact fun _ h => h | exact fun _ h => St.sub h (by repeat (first | exact List.Sublist.refl _ | apply List.Sublist.cons_cons | apply List.Sublist.cons))
        repeat'(first|(apply yp;iterate 3 exact rfl)|(apply QL.ev;(·exact rfl);(·first|((first|apply Ez|apply Ey);(·exact rfl);(·repeat(first|exact iO|exact iR rfl|apply iT));exact rfl)|((first|apply Ev.fieldAddr|apply Ev.len|apply EqOf.eq|apply EqOf.ne|apply Ev.conv|apply Ev.buildN);exact rfl)|((first|apply Ev.shr|apply Ev.shl);(iterate 2 exact rfl);first|decide|omega));·exact rfl)|(apply QL.ev; (· exact rfl); (· first | (apply Ev.indexAddr; (· exact rfl); (· exact rfl); (· omega); (· omega)) | (apply Ev.load_odl; (· exact rfl); (· (repeat (first | exact mH _ _ | apply mT))); (· refine hidx _ ?_; simp; done)) | (apply Ev.load_rd; (· exact rfl); (· (repeat (first | exact mH _ _ | apply mT))); (· refine hidx _ ?_; simp; done))); (· exact rfl))|(apply QL.evg; (iterate 3 exact rfl); (· first | (apply Ev.indexAddr; (· exact rfl); (· exact rfl); (· omega); (· omega)) | (apply Ev.load_odl; (· exact rfl); (· (repeat (first | exact mH _ _ | apply mT))); (· refine hidx _ ?_; simp; done)) | (apply Ev.load_rd; (· exact rfl); (· (repeat (first | exact mH _ _ | apply mT))); (· refine hidx _ ?_; simp; done))); (· exact rfl))|(apply yq;iterate 5 exact rfl)|(apply QL.evg;(iterate 3 exact rfl);(·first|((first|apply Ez|apply Ey);(·exact rfl);(·repeat(first|exact iO|exact iR rfl|apply iT));exact rfl)|((first|apply Ev.fieldAddr|apply Ev.len|apply EqOf.eq|apply EqOf.ne|apply Ev.conv|apply Ev.buildN);exact rfl)|((first|apply Ev.shr|apply Ev.shl);(iterate 2 exact rfl);first|decide|omega));·exact rfl)|(apply yn;iterate 4 exact rfl)|((apply QL.split;iterate 3 exact rfl);all_goals(intro hc;try simp only[hcs]at hc;try(exfalso;first|contradiction|omega)))|apply QL.nil)
        all_goals (show DW _ _ _ _ _ _ _ _))
      all_goals (first | (apply DW.done_thn; (· decide +kernel)) | (apply DW.done; (· decide +kernel)))
      skip)
    all_goals (
      repeat'(first|(apply kp;iterate 2 exact rfl)|apply jJ|(apply jE;exact rfl)|(apply jp;exact rfl)|(apply jc;kernel_rfl)|((first|apply kf|apply kn|apply ke|apply kx|apply kc|apply kb);iterate 2 exact rfl)|((first|apply kz|apply ky);(·exact rfl);(·repeat(first|exact iO|exact iR rfl|apply iT));iterate 2 exact rfl)|(apply kg;iterate 2 exact rfl)|(apply kG;iterate 3 exact rfl)|(apply kB;(iterate 2 exact rfl);intro _)|(apply kA;exact rfl;intro _)|(apply Go.Hb.kK;(iterate 4 exact rfl);intro _)|(apply kU;(iterate 2 exact rfl);(·repeat(first|exact sH _ _ _|apply sT));(first|exact nfL_eq rfl|exact rfl);exact rfl)|((first|apply kh|apply kl);(iterate 2 exact rfl);(first|decide|omega);exact rfl)|(apply addX;(iterate 2 exact rfl);(iterate 2(first|omega|(dsimp only;omega)));exact rfl)|((first|(apply kR;iterate 2 exact rfl)|(apply kQ;exact rfl));all_goals(intro hc;try simp only[hcs]at hc;try(exfalso;first|contradiction|omega))))
      skip)
    all_goals (
      first
      | (refine At.again (i + 1) (by omega) ?_ ⟨rfl, trivial⟩ (fun w' hw' => hw') (by omega)
         (repeat (first | exact Out.refl _ _ | exact Out.mix | (apply Out.upd; (· exact rfl)) | (apply Out.updL; (· exact rfl)) | (apply Out.mixs; (· exact rfl))))
         )
      | (exfalso
         exact hnot _ (by assumption))
      | (exfalso
         exact hmem.elim (by assumption) (by assumption)))
  · have hie : i = R.ask.length := by omega
    repeat'(first|(apply kp;iterate 2 exact rfl)|apply jJ|(apply jE;exact rfl)|(apply jp;exact rfl)|(apply jc;kernel_rfl)|((first|apply kf|apply kn|apply ke|apply kx|apply kc|apply kb);iterate 2 exact rfl)|((first|apply kz|apply ky);(·exact rfl);(·repeat(first|exact iO|exact iR rfl|apply iT));iterate 2 exact rfl)|(apply kg;iterate 2 exact rfl)|(apply kG;iterate 3 exact rfl)|(apply kB;(iterate 2 exact rfl);intro _)|(apply kA;exact rfl;intro _)|(apply Go.Hb.kK;(iterate 4 exact rfl);intro _)|(apply kU;(iterate 2 exact rfl);(·repeat(first|exact sH _ _ _|apply sT));(first|exact nfL_eq rfl|exact rfl);exact rfl)|((first|apply kh|apply kl);(iterate 2 exact rfl);(first|decide|omega);exact rfl)|((first|(apply kR;iterate 2 exact rfl)|(apply kQ;exact rfl));all_goals(intro hc;try simp only[hcs]at hc;try(exfalso;first|contradiction|omega))))
    apply CW.loop [6, 11, 95, 96, 97, 98, 99, 100, 101, 102, 103, 104, 105, 106, 107, 108, 109, 110, 111, 112, 113, 114, 115, 116, 117, 118, 119, 120, 121, 122, 123, 124, 125, 126, 127, 128, 129, 130] (fun j : Nat => j ≤ gp.length) (fun j => [(11, .int .i64 (j : Int))])
      (fun j => St w NoF [tkI p8 (answerT R hv) a4 c4, odl (.slice a4 (keepI hv R.ask).length c4) 3 1 (keepI hv R.ask).length (iv (keepI hv R.ask)), tkI p7 R a3 c3, odl (.slice a3 R.ask.length c3) 3 1 R.ask.length (iv R.ask), tkI b2 t a c, rdA ah (iv hv), rdA a (iv t.ask), rdA ag (iv gp)]) (fun j => gp.length - j)
    · exact fun w' hw' => ⟨0, by omega, ⟨rfl, trivial⟩, hw'⟩
    intro j g2 hj
    by_cases hjl : j < gp.length
    · obtain ⟨bg, og, rfl⟩ := hrg.form (fun e => by have := congrArg List.length e; simp at this; subst this; simp at hjl)
      have hmem := hR5 gp[j] (List.getElem_mem hjl)
      have hidx : ∀ q, q = j → (iv gp)[q]? = some (.int .i64 gp[j]) := fun q hq => iv_at hq hjl
      generalize gp[j] = x at hmem hidx
      repeat'(first|(apply CW.reg_heldC)|(apply kp;iterate 2 exact rfl)|apply jJ|(apply jE;exact rfl)|(apply jp;exact rfl)|(apply jc;kernel_rfl)|((first|apply kf|apply kn|apply ke|apply kx|apply kc|apply kb);iterate 2 exact rfl)|((first|apply kz|apply ky);(·exact rfl);(·repeat(first|exact iO|exact iR rfl|apply iT));iterate 2 exact rfl)|(apply kg;iterate 2 exact rfl)|(apply kG;iterate 3 exact rfl)|(apply kB;(iterate 2 exact rfl);intro _)|(apply kA;exact rfl;intro _)|(apply Go.Hb.kK;(iterate 4 exact rfl);intro _)|(apply kU;(iterate 2 exact rfl);(·repeat(first|exact sH _ _ _|apply sT));(first|exact nfL_eq rfl|exact rfl);exact rfl)|((first|apply kh|apply kl);(iterate 2 exact rfl);(first|decide|omega);exact rfl)|((first|(apply kR;iterate 2 exact rfl)|(apply kQ;exact rfl));all_goals(intro hc;try simp only[hcs]at hc;try(exfalso;first|contradiction|omega))))
      all_goals (
        apply DW.quiet [0, 1, 2, 3, 4, 5, 6, 7, 8, 9, 10, 11, 12, 13, 14, 15, 16, 17, 18, 19, 20, 21, 22, 23, 24, 25, 26]
        · decide +kernel
        · first | exact fun _ h => h | exact fun _ h => St.sub h (by repeat (first | exact List.Sublist.refl _ | apply List.Sublist.cons_cons | apply List.Sublist.cons))
        repeat'(first|(apply yp;iterate 3 exact rfl)|(apply QL.ev;(·exact rfl);(·first|((first|apply Ez|apply Ey);(·exact rfl);(·repeat(first|exact iO|exact iR rfl|apply iT));exact rfl)|((first|apply Ev.fieldAddr|apply Ev.len|apply EqOf.eq|apply EqOf.ne|apply Ev.conv|apply Ev.buildN);exact rfl)|((first|apply Ev.shr|apply Ev.shl);(iterate 2 exact rfl);first|decide|omega));·exact rfl)|(apply QL.ev; (· exact rfl); (· first | (apply Ev.indexAddr; (· exact rfl); (· exact rfl); (· omega); (· omega)) | (apply Ev.load_odl; (· exact rfl); (· (repeat (first | exact mH _ _ | apply mT))); (· refine hidx _ ?_; simp; done)) | (apply Ev.load_rd; (· exact rfl); (· (repeat (first | exact mH _ _ | apply mT))); (· refine hidx _ ?_; simp; done))); (· exact rfl))|(apply QL.evg; (iterate 3 exact rfl); (· first | (apply Ev.indexAddr; (· exact rfl); (· exact rfl); (· omega); (· omega)) | (apply Ev.load_odl; (· exact rfl); (· (repeat (first | exact mH _ _ | apply mT))); (· refine hidx _ ?_; simp; done)) | (apply Ev.load_rd; (· exact rfl); (· (repeat (first | exact mH _ _ | apply mT))); (· refine hidx _ ?_; simp; done))); (· exact rfl))|(apply yq;iterate 5 exact rfl)|(apply QL.evg;(iterate 3 exact rfl);(·first|((first|apply Ez|apply Ey);(·exact rfl);(·repeat(first|exact iO|exact iR rfl|apply iT));exact rfl)|((first|apply Ev.fieldAddr|apply Ev.len|apply EqOf.eq|apply EqOf.ne|apply Ev.conv|apply Ev.buildN);exact rfl)|((first|apply Ev.shr|apply Ev.shl);(iterate 2 exact rfl);first|decide|omega));·exact rfl)|(apply yn;iterate 4 exact rfl)|((apply QL.split;iterate 3 exact rfl);all_goals(intro hc;try simp only[hcs]at hc;try(exfalso;first|contradiction|omega)))|apply QL.nil)
        all_goals (show DW _ _ _ _ _ _ _ _))
      all_goals (
        apply DW.loud 27
        · exact rfl
        · decide +kernel
        repeat'(first|(apply kg;iterate 2 exact rfl)|(apply kG;iterate 3 exact rfl)|apply kM|(apply kp;iterate 2 exact rfl)|((first|apply kz|apply ky);(·exact rfl);(·repeat(first|exact iO|exact iR rfl|apply iT));iterate 2 exact rfl)|(apply Go.Hb.kK;(iterate 4 exact rfl);intro _)|(apply kU;(iterate 2 exact rfl);(·repeat(first|exact sH _ _ _|apply sT));(first|exact nfL_eq rfl|exact rfl);exact rfl)|(apply kB;(iterate 2 exact rfl);intro _)|(apply kA;exact rfl;intro _)|(apply kq; (· exact rfl); (· intro w1 h1; first | exact CallsTo.q (t47 a3 c3 R.ask x w1 (h1.rd_of_odl (by (repeat (first | exact mH _ _ | apply mT)))) (by omega)) h1 | exact CallsTo.q (t47 a c t.ask x w1 (h1.rd_of (by (repeat (first | exact mH _ _ | apply mT)))) hm) h1 | exact CallsTo.q (t47 ag cg gp x w1 (h1.rd_of (by (repeat (first | exact mH _ _ | apply mT)))) hmg) h1 | (have hq := CallsTo.q (t47 a4 c4 (keepI hv R.ask) x w1 (h1.rd_of_odl (by (repeat (first | exact mH _ _ | apply mT)))) (by omega)) h1; exact hq) | exact CallsTo.q (t47 ah ch hv x w1 (h1.rd_of (by (repeat (first | exact mH _ _ | apply mT)))) hmh) h1)))
        all_goals (refine At.stage_same (fun _ h => St.sub h (by repeat (first | exact List.Sublist.refl _ | apply List.Sublist.cons_cons | apply List.Sublist.cons))) ?_))
      all_goals (
        apply DW.quiet [28, 29]
        · decide +kernel
        · first | exact fun _ h => h | exact fun _ h => St.sub h (by repeat (first | exact List.Sublist.refl _ | apply List.Sublist.cons_cons | apply List.Sublist.cons))
        repeat'(first|(apply yp;iterate 3 exact rfl)|(apply QL.ev;(·exact rfl);(·first|((first|apply Ez|apply Ey);(·exact rfl);(·repeat(first|exact iO|exact iR rfl|apply iT));exact rfl)|((first|apply Ev.fieldAddr|apply Ev.len|apply EqOf.eq|apply EqOf.ne|apply Ev.conv|apply Ev.buildN);exact rfl)|((first|apply Ev.shr|apply Ev.shl);(iterate 2 exact rfl);first|decide|omega));·exact rfl)|(apply QL.ev; (· exact rfl); (· first | (apply Ev.indexAddr; (· exact rfl); (· exact rfl); (· omega); (· omega)) | (apply Ev.load_odl; (· exact rfl); (· (repeat (first | exact mH _ _ | apply mT))); (· refine hidx _ ?_; simp; done)) | (apply Ev.load_rd; (· exact rfl); (· (repeat (first | exact mH _ _ | apply mT))); (· refine hidx _ ?_; simp; done))); (· exact rfl))|(apply QL.evg; (iterate 3 exact rfl); (· first | (apply Ev.indexAddr; (· exact rfl); (· exact rfl); (· omega); (· omega)) | (apply Ev.load_odl; (· exact rfl); (· (repeat (first | exact mH _ _ | apply mT))); (· refine hidx _ ?_; simp; done)) | (apply Ev.load_rd; (· exact rfl); (· (repeat (first | exact mH _ _ | apply mT))); (· refine hidx _ ?_; simp; done))); (· exact rfl))|(apply yq;iterate 5 exact rfl)|(apply QL.evg;(iterate 3 exact rfl);(·first|((first|apply Ez|apply Ey);(·exact rfl);(·repeat(first|exact iO|exact iR rfl|apply iT));exact rfl)|((first|apply Ev.fieldAddr|apply Ev.len|apply EqOf.eq|apply EqOf.ne|apply Ev.conv|apply Ev.buildN);exact rfl)|((first|apply Ev.shr|apply Ev.shl);(iterate 2 exact rfl);first|decide|omega));·exact rfl)|(apply yn;iterate 4 exact rfl)|((apply QL.split;iterate 3 exact rfl);all_goals(intro hc;try simp only[hcs]at hc;try(exfalso;first|contradiction|omega)))|apply QL.nil)
        all_goals (show DW _ _ _ _ _ _ _ _))
      all_goals (first | (apply DW.done_thn; (· decide +kernel)) | (apply DW.done; (· decide +kernel)))
      all_goals (
        repeat'(first|(apply kp;iterate 2 exact rfl)|apply jJ|(apply jE;exact rfl)|(apply jp;exact rfl)|(apply jc;kernel_rfl)|((first|apply kf|apply kn|apply ke|apply kx|apply kc|apply kb);iterate 2 exact rfl)|((first|apply kz|apply ky);(·exact rfl);(·repeat(first|exact iO|exact iR rfl|apply iT));iterate 2 exact rfl)|(apply kg;iterate 2 exact rfl)|(apply kG;iterate 3 exact rfl)|(apply kB;(iterate 2 exact rfl);intro _)|(apply kA;exact rfl;intro _)|(apply Go.Hb.kK;(iterate 4 exact rfl);intro _)|(apply kU;(iterate 2 exact rfl);(·repeat(first|exact sH _ _ _|apply sT));(first|exact nfL_eq rfl|exact rfl);exact rfl)|((first|apply kh|apply kl);(iterate 2 exact rfl);(first|decide|omega);exact rfl)|(apply addX;(iterate 2 exact rfl);(iterate 2(first|omega|(dsimp only;omega)));exact rfl)|((first|(apply kR;iterate 2 exact rfl)|(apply kQ;exact rfl));all_goals(intro hc;try simp only[hcs]at hc;try(exfalso;first|contradiction|omega))))
        skip)
      all_goals (
        first
        | (refine At.again (j + 1) (by omega) ?_ ⟨rfl, trivial⟩ (fun w' hw' => hw') (by omega)
           (repeat (first | exact Out.refl _ _ | exact Out.mix | (apply Out.upd; (· exact rfl)) | (apply Out.updL; (· exact rfl)) | (apply Out.mixs; (· exact rfl))))
           )
        | (exfalso
           have := hmem (by omega) (by omega) (by omega)
           contradiction))
    · repeat'(first|(apply kp;iterate 2 exact rfl)|apply jJ|(apply jE;exact rfl)|(apply jp;exact rfl)|(apply jc;kernel_rfl)|((first|apply kf|apply kn|apply ke|apply kx|apply kc|apply kb);iterate 2 exact rfl)|((first|apply kz|apply ky);(·exact rfl);(·repeat(first|exact iO|exact iR rfl|apply iT));iterate 2 exact rfl)|(apply kg;iterate 2 exact rfl)|(apply kG;iterate 3 exact rfl)|(apply kB;(iterate 2 exact rfl);intro _)|(apply kA;exact rfl;intro _)|(apply Go.Hb.kK;(iterate 4 exact rfl);intro _)|(apply kU;(iterate 2 exact rfl);(·repeat(first|exact sH _ _ _|apply sT));(first|exact nfL_eq rfl|exact rfl);exact rfl)|((first|apply kh|apply kl);(iterate 2 exact rfl);(first|decide|omega);exact rfl)|((first|(apply kR;iterate 2 exact rfl)|(apply kQ;exact rfl));all_goals(intro hc;try simp only[hcs]at hc;try(exfalso;first|contradiction|omega))))
      (apply ret1; (· exact rfl); intro w' hS)
      exact ⟨rfl, hS.toKeep⟩
end Go.Proofs.Ythmmmbphknoagaa

namespace Go.Proofs.Ythmmmbphknoagaa
open Go.Hb
attribute [local irreducible] LR CW At Ev thn blk finK noG again CallsTo DW QL dnext
set_option linter.unusedSimpArgs false
set_option linter.unusedVariables false
set_option maxRecDepth 100000

def idleV (i : Int) (q : Bool) : Int := if q then (if i < 9007199254740991 then i + 1 else i) else 0
def idleT (t : Tk) (q : Bool) : Tk := { t with idle := idleV t.idle q }
theorem t50 (t : Tk) (a : Option Addr) (c : Nat) (q : Bool) (w : World) (hr : Rd w a (iv t.ask)) (hz : a = none → c = 0) (hm : t.ask.length ≤ 17592186043904) (hi : -9223372036854775808 ≤ t.idle) :
    CallsTo Try.prog 50 [t.val a c, .bool q] w fun v w' => ∃ a' c', v = (idleT t q).val a' c' ∧ NewSl w w' (.slice a' t.ask.length c') 3 1 t.ask.length (iv t.ask) := by
  refine go_in (n := 20) (St.rd1 hr) Try.func50 rfl rfl ?_
  repeat'(first|(apply kB;(iterate 2 exact rfl);intro b2)|(apply kp;iterate 2 exact rfl)|apply jJ|(apply jE;exact rfl)|(apply jp;exact rfl)|(apply jc;kernel_rfl)|((first|apply kf|apply kn|apply ke|apply kx|apply kc|apply kb);iterate 2 exact rfl)|((first|apply kz|apply ky);(·exact rfl);(·repeat(first|exact iO|exact iR rfl|apply iT));iterate 2 exact rfl)|(apply kg;iterate 2 exact rfl)|(apply kG;iterate 3 exact rfl)|(apply kB;(iterate 2 exact rfl);intro _)|(apply kA;exact rfl;intro _)|(apply Go.Hb.kK;(iterate 4 exact rfl);intro _)|(apply kU;(iterate 2 exact rfl);(·repeat(first|exact sH _ _ _|apply sT));(first|exact nfL_eq rfl|exact rfl);exact rfl)|((first|apply kh|apply kl);(iterate 2 exact rfl);(first|decide|omega);exact rfl)|((first|(apply kR;iterate 2 exact rfl)|(apply kQ;exact rfl));all_goals(intro hc;try simp only[hcs]at hc;try(exfalso;first|contradiction|omega))))
  apply LR.call
  · exact rfl
  intro w1 h1
  refine (t52 a c t.ask w1 (h1.rd_of (by (repeat (first | exact mH _ _ | apply mT)))) hz hm).mono ?_
  rintro v w2 ⟨a1, c1, rfl, hn⟩
  refine LR.back (h1.newSl hn) ?_
  clear hn h1
  cases q with
  | false =>
    repeat'(first|(apply kp;iterate 2 exact rfl)|apply jJ|(apply jE;exact rfl)|(apply jp;exact rfl)|(apply jc;kernel_rfl)|((first|apply kf|apply kn|apply ke|apply kx|apply kc|apply kb);iterate 2 exact rfl)|((first|apply kz|apply ky);(·exact rfl);(·repeat(first|exact iO|exact iR rfl|apply iT));iterate 2 exact rfl)|(apply kg;iterate 2 exact rfl)|(apply kG;iterate 3 exact rfl)|(apply kB;(iterate 2 exact rfl);intro _)|(apply kA;exact rfl;intro _)|(apply Go.Hb.kK;(iterate 4 exact rfl);intro _)|(apply kU;(iterate 2 exact rfl);(·repeat(first|exact sH _ _ _|apply sT));(first|exact nfL_eq rfl|exact rfl);exact rfl)|((first|apply kh|apply kl);(iterate 2 exact rfl);(first|decide|omega);exact rfl)|((first|(apply kR;iterate 2 exact rfl)|(apply kQ;exact rfl));all_goals(intro hc;try simp only[hcs]at hc;try(exfalso;first|contradiction|omega))))
    (apply ret1c; (· exact rfl); (· exact inferInstance); (· exact rfl); (· (repeat (first | exact List.Mem.head _ | apply List.Mem.tail))); (· exact rfl); intro w' hS)
    exact ⟨a1, c1, rfl, hS.toNew (by (repeat (first | exact mH _ _ | apply mT)))⟩
  | true =>
    repeat'(first|(apply kp;iterate 2 exact rfl)|apply jJ|(apply jE;exact rfl)|(apply jp;exact rfl)|(apply jc;kernel_rfl)|((first|apply kf|apply kn|apply ke|apply kx|apply kc|apply kb);iterate 2 exact rfl)|((first|apply kz|apply ky);(·exact rfl);(·repeat(first|exact iO|exact iR rfl|apply iT));iterate 2 exact rfl)|(apply kg;iterate 2 exact rfl)|(apply kG;iterate 3 exact rfl)|(apply kB;(iterate 2 exact rfl);intro _)|(apply kA;exact rfl;intro _)|(apply Go.Hb.kK;(iterate 4 exact rfl);intro _)|(apply kU;(iterate 2 exact rfl);(·repeat(first|exact sH _ _ _|apply sT));(first|exact nfL_eq rfl|exact rfl);exact rfl)|((first|apply kh|apply kl);(iterate 2 exact rfl);(first|decide|omega);exact rfl)|(apply addX;(iterate 2 exact rfl);(iterate 2(first|omega|(dsimp only;omega)));exact rfl)|((first|(apply kR;iterate 2 exact rfl)|(apply kQ;exact rfl));all_goals(intro hc;try simp only[hcs]at hc;try(exfalso;first|contradiction|omega))))
    · (apply ret1c; (· exact rfl); (· exact inferInstance); (· exact rfl); (· (repeat (first | exact List.Mem.head _ | apply List.Mem.tail))); (· exact rfl); intro w' hS)
      have e : idleV t.idle true = t.idle + 1 := by unfold idleV; rw [if_pos rfl, if_pos (by assumption)]
      refine ⟨a1, c1, ?_, hS.toNew (by (repeat (first | exact mH _ _ | apply mT)))⟩
      unfold idleT
      rw [e]
      rfl
    · (apply ret1c; (· exact rfl); (· exact inferInstance); (· exact rfl); (· (repeat (first | exact List.Mem.head _ | apply List.Mem.tail))); (· exact rfl); intro w' hS)
      have e : idleV t.idle true = t.idle := by unfold idleV; rw [if_pos rfl, if_neg (by omega)]
      refine ⟨a1, c1, ?_, hS.toNew (by (repeat (first | exact mH _ _ | apply mT)))⟩
      unfold idleT
      rw [e]
      rfl
theorem t71 (t : Tk) (a : Option Addr) (c : Nat) (q : Bool) (w : World) (hr : Rd w a (iv t.ask)) (hz : a = none → c = 0) (hm : t.ask.length ≤ 17592186043904) (hi : -9223372036854775808 ≤ t.idle) :
    CallsTo Try.prog 71 [t.val a c, .bool q] w fun v w' => ∃ a' c', v = (idleT t q).val a' c' ∧ NewSl w w' (.slice a' t.ask.length c') 3 1 t.ask.length (iv t.ask) := by
  refine go_in (n := 22) (St.rd1 hr) Try.func71 rfl rfl ?_
  repeat'(first|(apply kB;(iterate 2 exact rfl);intro b2)|(apply kp;iterate 2 exact rfl)|apply jJ|(apply jE;exact rfl)|(apply jp;exact rfl)|(apply jc;kernel_rfl)|((first|apply kf|apply kn|apply ke|apply kx|apply kc|apply kb);iterate 2 exact rfl)|((first|apply kz|apply ky);(·exact rfl);(·repeat(first|exact iO|exact iR rfl|apply iT));iterate 2 exact rfl)|(apply kg;iterate 2 exact rfl)|(apply kG;iterate 3 exact rfl)|(apply kB;(iterate 2 exact rfl);intro _)|(apply kA;exact rfl;intro _)|(apply Go.Hb.kK;(iterate 4 exact rfl);intro _)|(apply kU;(iterate 2 exact rfl);(·repeat(first|exact sH _ _ _|apply sT));(first|exact nfL_eq rfl|exact rfl);exact rfl)|((first|apply kh|apply kl);(iterate 2 exact rfl);(first|decide|omega);exact rfl)|((first|(apply kR;iterate 2 exact rfl)|(apply kQ;exact rfl));all_goals(intro hc;try simp only[hcs]at hc;try(exfalso;first|contradiction|omega))))
  apply LR.call
  · exact rfl
  intro w1 h1
  refine (t13 a c t.ask w1 (h1.rd_of (by (repeat (first | exact mH _ _ | apply mT)))) hz hm).mono ?_
  rintro v w2 ⟨a1, c1, rfl, hn⟩
  refine LR.back (h1.newSl hn) ?_
  clear hn h1
  cases q with
  | false =>
    repeat'(first|(apply kp;iterate 2 exact rfl)|apply jJ|(apply jE;exact rfl)|(apply jp;exact rfl)|(apply jc;kernel_rfl)|((first|apply kf|apply kn|apply ke|apply kx|apply kc|apply kb);iterate 2 exact rfl)|((first|apply kz|apply ky);(·exact rfl);(·repeat(first|exact iO|exact iR rfl|apply iT));iterate 2 exact rfl)|(apply kg;iterate 2 exact rfl)|(apply kG;iterate 3 exact rfl)|(apply kB;(iterate 2 exact rfl);intro _)|(apply kA;exact rfl;intro _)|(apply Go.Hb.kK;(iterate 4 exact rfl);intro _)|(apply kU;(iterate 2 exact rfl);(·repeat(first|exact sH _ _ _|apply sT));(first|exact nfL_eq rfl|exact rfl);exact rfl)|((first|apply kh|apply kl);(iterate 2 exact rfl);(first|decide|omega);exact rfl)|((first|(apply kR;iterate 2 exact rfl)|(apply kQ;exact rfl));all_goals(intro hc;try simp only[hcs]at hc;try(exfalso;first|contradiction|omega))))
    (apply ret1c; (· exact rfl); (· exact inferInstance); (· exact rfl); (· (repeat (first | exact List.Mem.head _ | apply List.Mem.tail))); (· exact rfl); intro w' hS)
    exact ⟨a1, c1, rfl, hS.toNew (by (repeat (first | exact mH _ _ | apply mT)))⟩
  | true =>
    repeat'(first|(apply kp;iterate 2 exact rfl)|apply jJ|(apply jE;exact rfl)|(apply jp;exact rfl)|(apply jc;kernel_rfl)|((first|apply kf|apply kn|apply ke|apply kx|apply kc|apply kb);iterate 2 exact rfl)|((first|apply kz|apply ky);(·exact rfl);(·repeat(first|exact iO|exact iR rfl|apply iT));iterate 2 exact rfl)|(apply kg;iterate 2 exact rfl)|(apply kG;iterate 3 exact rfl)|(apply kB;(iterate 2 exact rfl);intro _)|(apply kA;exact rfl;intro _)|(apply Go.Hb.kK;(iterate 4 exact rfl);intro _)|(apply kU;(iterate 2 exact rfl);(·repeat(first|exact sH _ _ _|apply sT));(first|exact nfL_eq rfl|exact rfl);exact rfl)|((first|apply kh|apply kl);(iterate 2 exact rfl);(first|decide|omega);exact rfl)|(apply addX;(iterate 2 exact rfl);(iterate 2(first|omega|(dsimp only;omega)));exact rfl)|((first|(apply kR;iterate 2 exact rfl)|(apply kQ;exact rfl));all_goals(intro hc;try simp only[hcs]at hc;try(exfalso;first|contradiction|omega))))
    · (apply ret1c; (· exact rfl); (· exact inferInstance); (· exact rfl); (· (repeat (first | exact List.Mem.head _ | apply List.Mem.tail))); (· exact rfl); intro w' hS)
      have e : idleV t.idle true = t.idle + 1 := by unfold idleV; rw [if_pos rfl, if_pos (by assumption)]
      refine ⟨a1, c1, ?_, hS.toNew (by (repeat (first | exact mH _ _ | apply mT)))⟩
      unfold idleT
      rw [e]
      rfl
    · (apply ret1c; (· exact rfl); (· exact inferInstance); (· exact rfl); (· (repeat (first | exact List.Mem.head _ | apply List.Mem.tail))); (· exact rfl); intro w' hS)
      have e : idleV t.idle true = t.idle := by unfold idleV; rw [if_pos rfl, if_neg (by omega)]
      refine ⟨a1, c1, ?_, hS.toNew (by (repeat (first | exact mH _ _ | apply mT)))⟩
      unfold idleT
      rw [e]
      rfl
theorem t72 (s l c : Int) (w : World) : CallsTo Try.prog 72 [.int .i64 s, .int .i64 l, .int .i64 c] w fun v w' => v = .int .i64 (max s (min l c)) ∧ Grew w w' := by
  refine go_in (n := 12) (St.refl _ NoF) Try.func72 rfl rfl ?_
  repeat'(first|(apply kp;iterate 2 exact rfl)|apply jJ|(apply jE;exact rfl)|(apply jp;exact rfl)|(apply jc;kernel_rfl)|((first|apply kf|apply kn|apply ke|apply kx|apply kc|apply kb);iterate 2 exact rfl)|((first|apply kz|apply ky);(·exact rfl);(·repeat(first|exact iO|exact iR rfl|apply iT));iterate 2 exact rfl)|(apply kg;iterate 2 exact rfl)|(apply kG;iterate 3 exact rfl)|(apply kB;(iterate 2 exact rfl);intro _)|(apply kA;exact rfl;intro _)|(apply Go.Hb.kK;(iterate 4 exact rfl);intro _)|(apply kU;(iterate 2 exact rfl);(·repeat(first|exact sH _ _ _|apply sT));(first|exact nfL_eq rfl|exact rfl);exact rfl)|((first|apply kh|apply kl);(iterate 2 exact rfl);(first|decide|omega);exact rfl)|(apply LR.ev; (· first | (apply Ev.min2; (· exact rfl); (· exact rfl)) | (apply Ev.max2; (· exact rfl); (· exact rfl))); (· exact rfl))|((first|(apply kR;iterate 2 exact rfl)|(apply kQ;exact rfl));all_goals(intro hc;try simp only[hcs]at hc;try(exfalso;first|contradiction|omega))))
  (apply ret1; (· exact rfl); intro w' hS)
  refine ⟨congrArg (Value.int .i64) ?_, hS.toKeep⟩
  split <;> split <;> omega
theorem t69 (r1 r2 s : Int) (w : World) : CallsTo Try.prog 69 [.agg [.int .i64 r1, .int .i64 r2].toArray, .int .i64 s] w fun v w' => v = .tuple [(newTk r1 r2 s).1.val none 0, .int .i64 (newTk r1 r2 s).2].toArray ∧ Grew w w' := by
  refine go_in (n := 26) (St.refl _ NoF) Try.func69 rfl rfl ?_
  repeat'(first|(apply kp;iterate 2 exact rfl)|apply jJ|(apply jE;exact rfl)|(apply jp;exact rfl)|(apply jc;kernel_rfl)|((first|apply kf|apply kn|apply ke|apply kx|apply kc|apply kb);iterate 2 exact rfl)|((first|apply kz|apply ky);(·exact rfl);(·repeat(first|exact iO|exact iR rfl|apply iT));iterate 2 exact rfl)|(apply kg;iterate 2 exact rfl)|(apply kG;iterate 3 exact rfl)|(apply kB;(iterate 2 exact rfl);intro _)|(apply kA;exact rfl;intro _)|(apply Go.Hb.kK;(iterate 4 exact rfl);intro _)|(apply kU;(iterate 2 exact rfl);(·repeat(first|exact sH _ _ _|apply sT));(first|exact nfL_eq rfl|exact rfl);exact rfl)|((first|apply kh|apply kl);(iterate 2 exact rfl);(first|decide|omega);exact rfl)|(apply kq;(·exact rfl);(·intro w1 h1;exact CallsTo.q (c97 _ _ w1) h1))|((first|(apply kR;iterate 2 exact rfl)|(apply kQ;exact rfl));all_goals(intro hc;try simp only[hcs]at hc;try(exfalso;first|contradiction|omega))))
  all_goals (
    (apply ret2c; (· exact rfl); (· exact inferInstance); (· exact rfl); (· (repeat (first | exact List.Mem.head _ | apply List.Mem.tail))); (· exact rfl); intro w' hS)
    refine ⟨?_, hS.toKeep⟩
    first
    | (have e : newTk r1 r2 s = (noTk, 2) := by unfold newTk rmay withinB; simp_all [ringE]; try omega
       rw [e]
       rfl)
    | (have e : newTk r1 r2 s = (⟨r1, r2, 1, 0, 0, 0, s, 0, []⟩, 0) := by unfold newTk rmay withinB; simp_all [ringE]; try omega
       rw [e]
       rfl))
theorem t94 (a : Option Addr) (ca : Nat) (l : List Int) (n : Int) (w : World) (hr : Rd w a (iv l)) (hm : l.length ≤ 17592186043904) :
    CallsTo Try.prog 94 [.slice a l.length ca, .int .i64 n] w fun v w' => v = .bool (decide (n ∈ l)) ∧ Grew w w' := by
  refine go_in (n := 18) (St.rd1 hr) Try.func94 rfl rfl ?_
  repeat'(first|(apply kp;iterate 2 exact rfl)|apply jJ|(apply jE;exact rfl)|(apply jp;exact rfl)|(apply jc;kernel_rfl)|((first|apply kf|apply kn|apply ke|apply kx|apply kc|apply kb);iterate 2 exact rfl)|((first|apply kz|apply ky);(·exact rfl);(·repeat(first|exact iO|exact iR rfl|apply iT));iterate 2 exact rfl)|(apply kg;iterate 2 exact rfl)|(apply kG;iterate 3 exact rfl)|(apply kB;(iterate 2 exact rfl);intro _)|(apply kA;exact rfl;intro _)|(apply Go.Hb.kK;(iterate 4 exact rfl);intro _)|(apply kU;(iterate 2 exact rfl);(·repeat(first|exact sH _ _ _|apply sT));(first|exact nfL_eq rfl|exact rfl);exact rfl)|((first|apply kh|apply kl);(iterate 2 exact rfl);(first|decide|omega);exact rfl)|((first|(apply kR;iterate 2 exact rfl)|(apply kQ;exact rfl));all_goals(intro hc;try simp only[hcs]at hc;try(exfalso;first|contradiction|omega))))
  apply CW.loop [4, 5, 6, 7, 8, 9, 10, 11, 12, 13, 14, 15, 16, 17] (fun i : Nat => i ≤ l.length ∧ n ∉ l.take i) (fun i : Nat => [(5, Value.int .i64 i)]) (fun i => St w NoF [rdA a (iv l)]) (fun i => l.length - i)
  · exact fun w' hw' => ⟨0, ⟨by omega, by simp⟩, ⟨rfl, trivial⟩, hw'⟩
  intro i g ⟨hi, heq⟩
  by_cases hlt : i < l.length
  · obtain ⟨ba, oa, rfl⟩ := hr.form (fun e => by have := congrArg List.length e; simp at this; subst this; simp at hlt)
    repeat'(first|(apply kp;iterate 2 exact rfl)|apply jJ|(apply jE;exact rfl)|(apply jp;exact rfl)|(apply jc;kernel_rfl)|((first|apply kf|apply kn|apply ke|apply kx|apply kc|apply kb);iterate 2 exact rfl)|((first|apply kz|apply ky);(·exact rfl);(·repeat(first|exact iO|exact iR rfl|apply iT));iterate 2 exact rfl)|(apply kg;iterate 2 exact rfl)|(apply kG;iterate 3 exact rfl)|(apply kB;(iterate 2 exact rfl);intro _)|(apply kA;exact rfl;intro _)|(apply Go.Hb.kK;(iterate 4 exact rfl);intro _)|(apply kU;(iterate 2 exact rfl);(·repeat(first|exact sH _ _ _|apply sT));(first|exact nfL_eq rfl|exact rfl);exact rfl)|((first|apply kh|apply kl);(iterate 2 exact rfl);(first|decide|omega);exact rfl)|(apply idxX;(iterate 2 exact rfl);(iterate 2(first|omega|(dsimp only;omega)));exact rfl)|(apply LR.ev; (· apply Ev.load_rd; (· exact rfl); (· repeat (first | exact mH _ _ | apply mT)); (· exact iv_at (i := i) (by simp) (by omega))); (· exact rfl))|(apply addX;(iterate 2 exact rfl);(iterate 2(first|omega|(dsimp only;omega)));exact rfl)|((first|(apply kR;iterate 2 exact rfl)|(apply kQ;exact rfl));all_goals(intro hc;try simp only[hcs]at hc;try(exfalso;first|contradiction|omega))))
    · (apply ret1; (· exact rfl); intro w' hS)
      refine ⟨congrArg Value.bool ?_, hS.toKeep⟩
      have : n ∈ l := by
        have h : l[i] = n := by assumption
        exact h ▸ List.getElem_mem hlt
      simp [this]
    · have h : ¬l[i] = n := by assumption
      apply At.again (i + 1) ⟨by omega, not_take hlt heq h⟩
      · (repeat (first | exact Out.refl _ _ | exact Out.mix | (apply Out.upd; (· exact rfl)) | (apply Out.updL; (· exact rfl)) | (apply Out.mixs; (· exact rfl))))
      · exact ⟨rfl, trivial⟩
      · exact fun w' hw' => hw'
      · omega
  · have hie : i = l.length := by omega
    subst hie
    repeat'(first|(apply kp;iterate 2 exact rfl)|apply jJ|(apply jE;exact rfl)|(apply jp;exact rfl)|(apply jc;kernel_rfl)|((first|apply kf|apply kn|apply ke|apply kx|apply kc|apply kb);iterate 2 exact rfl)|((first|apply kz|apply ky);(·exact rfl);(·repeat(first|exact iO|exact iR rfl|apply iT));iterate 2 exact rfl)|(apply kg;iterate 2 exact rfl)|(apply kG;iterate 3 exact rfl)|(apply kB;(iterate 2 exact rfl);intro _)|(apply kA;exact rfl;intro _)|(apply Go.Hb.kK;(iterate 4 exact rfl);intro _)|(apply kU;(iterate 2 exact rfl);(·repeat(first|exact sH _ _ _|apply sT));(first|exact nfL_eq rfl|exact rfl);exact rfl)|((first|apply kh|apply kl);(iterate 2 exact rfl);(first|decide|omega);exact rfl)|((first|(apply kR;iterate 2 exact rfl)|(apply kQ;exact rfl));all_goals(intro hc;try simp only[hcs]at hc;try(exfalso;first|contradiction|omega))))
    (apply ret1; (· exact rfl); intro w' hS)
    refine ⟨congrArg Value.bool ?_, hS.toKeep⟩
    rw [List.take_length] at heq
    simp [heq]
theorem iv_snoc (l : List Int) (x : Int) : iv l ++ [Value.int .i64 x] = iv (l ++ [x]) := by unfold iv; rw [List.map_append]; rfl
set_option maxHeartbeats 1000000 in
theorem t70 (t : Tk) (a : Option Addr) (c : Nat) (ah : Option Addr) (ch : Nat) (hv : List Int) (w : World) (hr : Rd w a (iv t.ask)) (hm : t.ask.length ≤ 17592186043904) (hh : Rd w ah (iv hv)) (hmh : hv.length ≤ 17592186043904) :
    CallsTo Try.prog 70 [t.val a c, .slice ah hv.length ch] w fun v w' => ∃ a' c', v = (answerT t hv).val a' c' ∧ NewSl w w' (.slice a' (keepI hv t.ask).length c') 3 1 (keepI hv t.ask).length (iv (keepI hv t.ask)) := by
  refine go_in (n := 35) (St.rd2 hr hh) Try.func70 rfl rfl ?_
  repeat'(first|(apply kB;(iterate 2 exact rfl);intro b2)|(apply kA;exact rfl;(first|(have := b4;clear this;intro b5)|intro b4))|(apply kp;iterate 2 exact rfl)|apply jJ|(apply jE;exact rfl)|(apply jp;exact rfl)|(apply jc;kernel_rfl)|((first|apply kf|apply kn|apply ke|apply kx|apply kc|apply kb);iterate 2 exact rfl)|((first|apply kz|apply ky);(·exact rfl);(·repeat(first|exact iO|exact iR rfl|apply iT));iterate 2 exact rfl)|(apply kg;iterate 2 exact rfl)|(apply kG;iterate 3 exact rfl)|(apply kB;(iterate 2 exact rfl);intro _)|(apply kA;exact rfl;intro _)|(apply Go.Hb.kK;(iterate 4 exact rfl);intro _)|(apply kU;(iterate 2 exact rfl);(·repeat(first|exact sH _ _ _|apply sT));(first|exact nfL_eq rfl|exact rfl);exact rfl)|((first|apply kh|apply kl);(iterate 2 exact rfl);(first|decide|omega);exact rfl)|((first|(apply kR;iterate 2 exact rfl)|(apply kQ;exact rfl));all_goals(intro hc;try simp only[hcs]at hc;try(exfalso;first|contradiction|omega))))
  apply CW.loop [6, 9, 10, 11, 12, 13, 14, 15, 16, 17, 18, 19, 20, 21, 22, 23, 24, 25, 26, 27, 28, 29, 30, 31, 32, 33] (fun s : Lst => s.k ≤ t.ask.length) (fun s => [(6, .int .i64 (s.k : Int))])
    (fun s => St w NoF [osl (.slice s.a (keepI hv (t.ask.take s.k)).length s.c) 3 1 (keepI hv (t.ask.take s.k)).length (iv (keepI hv (t.ask.take s.k))), .own b5 (.cells #[.int .i64 t.r1, .int .i64 t.r2, .int .i64 t.hop, .int .i64 t.seq, .int .i64 t.aru, .int .i64 t.low, .int .i64 t.stamp, .int .i64 t.idle, .slice s.a (keepI hv (t.ask.take s.k)).length s.c] 26 (0, 0)), tkI b4 noTk none 0, tkI b2 t a c, rdA a (iv t.ask), rdA ah (iv hv)]) (fun s => t.ask.length - s.k)
  · exact fun w' hw' => ⟨⟨0, none, 0⟩, by simp, ⟨rfl, trivial⟩, hw'.nilsl 3 1⟩
  rintro ⟨k, a2, c2⟩ g1 hk
  simp only at hk ⊢
  have hkl : (keepI hv (t.ask.take k)).length ≤ k := by have := keepI_len hv (t.ask.take k); rw [List.length_take] at this; omega
  by_cases hlt : k < t.ask.length
  · obtain ⟨ba, oa, rfl⟩ := hr.form (fun e => by have := congrArg List.length e; simp at this; simp [this] at hlt)
    have hks := keepI_succ hv hlt
    have hidx : ∀ q, q = k → (iv t.ask)[q]? = some (.int .i64 t.ask[k]) := fun q hq => iv_at hq hlt
    generalize t.ask[k] = x at hks hidx
    generalize keepI hv (t.ask.take k) = K at hks hkl ⊢
    repeat'(first|(apply CW.reg_sink 10 (St w NoF [.own b5 (.cells #[.int .i64 t.r1, .int .i64 t.r2, .int .i64 t.hop, .int .i64 t.seq, .int .i64 t.aru, .int .i64 t.low, .int .i64 t.stamp, .int .i64 t.idle, .slice a2 K.length c2] 26 (0, 0)), tkI b4 noTk none 0, tkI b2 t (some ⟨ba, oa, none⟩) c, rdA (some ⟨ba, oa, none⟩) (iv t.ask), rdA ah (iv hv)]); (· exact rfl); (· decide +kernel))|(apply kp;iterate 2 exact rfl)|apply jJ|(apply jE;exact rfl)|(apply jp;exact rfl)|(apply jc;kernel_rfl)|((first|apply kf|apply kn|apply ke|apply kx|apply kc|apply kb);iterate 2 exact rfl)|((first|apply kz|apply ky);(·exact rfl);(·repeat(first|exact iO|exact iR rfl|apply iT));iterate 2 exact rfl)|(apply kg;iterate 2 exact rfl)|(apply kG;iterate 3 exact rfl)|(apply kB;(iterate 2 exact rfl);intro _)|(apply kA;exact rfl;intro _)|(apply Go.Hb.kK;(iterate 4 exact rfl);intro _)|(apply kU;(iterate 2 exact rfl);(·repeat(first|exact sH _ _ _|apply sT));(first|exact nfL_eq rfl|exact rfl);exact rfl)|((first|apply kh|apply kl);(iterate 2 exact rfl);(first|decide|omega);exact rfl)|(apply idxX;(iterate 2 exact rfl);(iterate 2(first|omega|(dsimp only;omega)));exact rfl)|(apply LR.ev; (· apply Ev.load_rd; (· exact rfl); (· repeat (first | exact mH _ _ | apply mT)); (· exact hidx _ (by simp))); (· exact rfl))|(apply kq; (· exact rfl); (· intro w1 h1; exact CallsTo.q (t94 ah ch hv x w1 (h1.rd_of (by (repeat (first | exact mH _ _ | apply mT)))) hmh) h1))|(apply addX;(iterate 2 exact rfl);(iterate 2(first|omega|(dsimp only;omega)));exact rfl)|((first|(apply kR;iterate 2 exact rfl)|(apply kQ;exact rfl));all_goals(intro hc;try simp only[hcs]at hc;try(exfalso;first|contradiction|omega))))
    · skip
      all_goals (
        apply DW.quiet [0, 1, 2, 3, 4, 5, 6]
        · decide +kernel
        · first | exact fun _ h => h | exact fun _ h => St.sub h (by repeat (first | exact List.Sublist.refl _ | apply List.Sublist.cons_cons | apply List.Sublist.cons))
        repeat'(first|(apply yp;iterate 3 exact rfl)|(apply QL.ev;(·exact rfl);(·first|((first|apply Ez|apply Ey);(·exact rfl);(·repeat(first|exact iO|exact iR rfl|apply iT));exact rfl)|((first|apply Ev.fieldAddr|apply Ev.len|apply EqOf.eq|apply EqOf.ne|apply Ev.conv|apply Ev.buildN);exact rfl)|((first|apply Ev.shr|apply Ev.shl);(iterate 2 exact rfl);first|decide|omega));·exact rfl)|(apply QL.ev; (· exact rfl); (· first | (apply Ev.indexAddr; (· exact rfl); (· exact rfl); (· omega); (· omega)) | (apply Ev.load_rd; (· exact rfl); (· (repeat (first | exact mH _ _ | apply mT))); (· refine hidx _ ?_; simp; done))); (· exact rfl))|(apply yq;iterate 5 exact rfl)|(apply QL.evg;(iterate 3 exact rfl);(·first|((first|apply Ez|apply Ey);(·exact rfl);(·repeat(first|exact iO|exact iR rfl|apply iT));exact rfl)|((first|apply Ev.fieldAddr|apply Ev.len|apply EqOf.eq|apply EqOf.ne|apply Ev.conv|apply Ev.buildN);exact rfl)|((first|apply Ev.shr|apply Ev.shl);(iterate 2 exact rfl);first|decide|omega));·exact rfl)|(apply yn;iterate 4 exact rfl)|((apply QL.split;iterate 3 exact rfl);all_goals(intro hc;try simp only[hcs]at hc;try(exfalso;first|contradiction|omega)))|apply QL.nil)
        all_goals (show DW _ _ _ _ _ _ _ _))
      all_goals (
        apply DW.loud 7
        · exact rfl
        · decide +kernel
        repeat'(first|(apply Go.Hb.kK;(iterate 4 exact rfl);intro bs)|(apply kg;iterate 2 exact rfl)|(apply kG;iterate 3 exact rfl)|apply kM|(apply kp;iterate 2 exact rfl)|((first|apply kz|apply ky);(·exact rfl);(·repeat(first|exact iO|exact iR rfl|apply iT));iterate 2 exact rfl)|(apply Go.Hb.kK;(iterate 4 exact rfl);intro _)|(apply kU;(iterate 2 exact rfl);(·repeat(first|exact sH _ _ _|apply sT));(first|exact nfL_eq rfl|exact rfl);exact rfl)|(apply kB;(iterate 2 exact rfl);intro _)|(apply kA;exact rfl;intro _)|(apply LR.append (xs := iv K) (news := [Value.int .i64 x]) (m := 1); (· exact rfl); (· exact rfl); (· intro a' c'; (repeat (first | exact sH _ _ _ | apply sT))); (· exact fun w' hw' => hw'.rd_of_blk (mH _ _)); (· exact fun hx => by cases hx); (· exact rfl); (· exact rfl); (· omega); (· unfold maxLen; omega); (· exact rfl); (intro a3 c3)))
        all_goals (refine At.stage_same (fun _ h => St.sub h (by repeat (first | exact List.Sublist.refl _ | apply List.Sublist.cons_cons | apply List.Sublist.cons))) ?_))
      all_goals (
        apply DW.loud 8
        · exact rfl
        · decide +kernel
        repeat'(first|(apply Go.Hb.kK;(iterate 4 exact rfl);intro bs)|(apply kg;iterate 2 exact rfl)|(apply kG;iterate 3 exact rfl)|apply kM|(apply kp;iterate 2 exact rfl)|((first|apply kz|apply ky);(·exact rfl);(·repeat(first|exact iO|exact iR rfl|apply iT));iterate 2 exact rfl)|(apply Go.Hb.kK;(iterate 4 exact rfl);intro _)|(apply kU;(iterate 2 exact rfl);(·repeat(first|exact sH _ _ _|apply sT));(first|exact nfL_eq rfl|exact rfl);exact rfl)|(apply kB;(iterate 2 exact rfl);intro _)|(apply kA;exact rfl;intro _)|(apply LR.append (xs := iv K) (news := [Value.int .i64 x]) (m := 1); (· exact rfl); (· exact rfl); (· intro a' c'; (repeat (first | exact sH _ _ _ | apply sT))); (· exact fun w' hw' => hw'.rd_of_blk (mH _ _)); (· exact fun hx => by cases hx); (· exact rfl); (· exact rfl); (· omega); (· unfold maxLen; omega); (· exact rfl); (intro a3 c3)))
        all_goals (refine At.stage_same (fun _ h => St.sub h (by repeat (first | exact List.Sublist.refl _ | apply List.Sublist.cons_cons | apply List.Sublist.cons))) ?_))
      all_goals (
        apply DW.quiet [9]
        · decide +kernel
        · first | exact fun _ h => h | exact fun _ h => St.sub h (by repeat (first | exact List.Sublist.refl _ | apply List.Sublist.cons_cons | apply List.Sublist.cons))
        repeat'(first|(apply yp;iterate 3 exact rfl)|(apply QL.ev;(·exact rfl);(·first|((first|apply Ez|apply Ey);(·exact rfl);(·repeat(first|exact iO|exact iR rfl|apply iT));exact rfl)|((first|apply Ev.fieldAddr|apply Ev.len|apply EqOf.eq|apply EqOf.ne|apply Ev.conv|apply Ev.buildN);exact rfl)|((first|apply Ev.shr|apply Ev.shl);(iterate 2 exact rfl);first|decide|omega));·exact rfl)|(apply QL.ev; (· exact rfl); (· first | (apply Ev.indexAddr; (· exact rfl); (· exact rfl); (· omega); (· omega)) | (apply Ev.load_rd; (· exact rfl); (· (repeat (first | exact mH _ _ | apply mT))); (· refine hidx _ ?_; simp; done))); (· exact rfl))|(apply yq;iterate 5 exact rfl)|(apply QL.evg;(iterate 3 exact rfl);(·first|((first|apply Ez|apply Ey);(·exact rfl);(·repeat(first|exact iO|exact iR rfl|apply iT));exact rfl)|((first|apply Ev.fieldAddr|apply Ev.len|apply EqOf.eq|apply EqOf.ne|apply Ev.conv|apply Ev.buildN);exact rfl)|((first|apply Ev.shr|apply Ev.shl);(iterate 2 exact rfl);first|decide|omega));·exact rfl)|(apply yn;iterate 4 exact rfl)|((apply QL.split;iterate 3 exact rfl);all_goals(intro hc;try simp only[hcs]at hc;try(exfalso;first|contradiction|omega)))|apply QL.nil)
        all_goals (show DW _ _ _ _ _ _ _ _))
      all_goals (apply DW.done; (· decide +kernel))
      all_goals apply At.sink
      repeat'(first|(apply kp;iterate 2 exact rfl)|apply jJ|(apply jE;exact rfl)|(apply jp;exact rfl)|(apply jc;kernel_rfl)|((first|apply kf|apply kn|apply ke|apply kx|apply kc|apply kb);iterate 2 exact rfl)|((first|apply kz|apply ky);(·exact rfl);(·repeat(first|exact iO|exact iR rfl|apply iT));iterate 2 exact rfl)|(apply kg;iterate 2 exact rfl)|(apply kG;iterate 3 exact rfl)|(apply kB;(iterate 2 exact rfl);intro _)|(apply kA;exact rfl;intro _)|(apply Go.Hb.kK;(iterate 4 exact rfl);intro _)|(apply kU;(iterate 2 exact rfl);(·repeat(first|exact sH _ _ _|apply sT));(first|exact nfL_eq rfl|exact rfl);exact rfl)|((first|apply kh|apply kl);(iterate 2 exact rfl);(first|decide|omega);exact rfl)|(apply addX;(iterate 2 exact rfl);(iterate 2(first|omega|(dsimp only;omega)));exact rfl)|((first|(apply kR;iterate 2 exact rfl)|(apply kQ;exact rfl));all_goals(intro hc;try simp only[hcs]at hc;try(exfalso;first|contradiction|omega))))
      refine At.again (⟨k + 1, a3, c3⟩ : Lst) (by simp only; omega) ?_ ⟨congrArg (Value.int .i64) (by simp), trivial⟩ ?_ (by simp only; omega)
      · (repeat (first | exact Out.refl _ _ | exact Out.mix | (apply Out.upd; (· exact rfl)) | (apply Out.updL; (· exact rfl)) | (apply Out.mixs; (· exact rfl))))
      · intro w' hw'
        simp only
        rw [hks, if_neg (by assumption), ← iv_snoc, List.length_append]
        exact hw'.sub (by (repeat (first | exact List.Sublist.refl _ | apply List.Sublist.cons_cons | apply List.Sublist.cons)))
    · refine At.again (⟨k + 1, a2, c2⟩ : Lst) (by simp only; omega) ?_ ⟨congrArg (Value.int .i64) (by simp), trivial⟩ ?_ (by simp only; omega)
      · (repeat (first | exact Out.refl _ _ | exact Out.mix | (apply Out.upd; (· exact rfl)) | (apply Out.updL; (· exact rfl)) | (apply Out.mixs; (· exact rfl))))
      · intro w' hw'
        simp only
        rw [hks, if_pos (by assumption), List.append_nil]
        exact hw'
  · have hie : k = t.ask.length := by omega
    rw [hie, List.take_length]
    repeat'(first|(apply kp;iterate 2 exact rfl)|apply jJ|(apply jE;exact rfl)|(apply jp;exact rfl)|(apply jc;kernel_rfl)|((first|apply kf|apply kn|apply ke|apply kx|apply kc|apply kb);iterate 2 exact rfl)|((first|apply kz|apply ky);(·exact rfl);(·repeat(first|exact iO|exact iR rfl|apply iT));iterate 2 exact rfl)|(apply kg;iterate 2 exact rfl)|(apply kG;iterate 3 exact rfl)|(apply kB;(iterate 2 exact rfl);intro _)|(apply kA;exact rfl;intro _)|(apply Go.Hb.kK;(iterate 4 exact rfl);intro _)|(apply kU;(iterate 2 exact rfl);(·repeat(first|exact sH _ _ _|apply sT));(first|exact nfL_eq rfl|exact rfl);exact rfl)|((first|apply kh|apply kl);(iterate 2 exact rfl);(first|decide|omega);exact rfl)|((first|(apply kR;iterate 2 exact rfl)|(apply kQ;exact rfl));all_goals(intro hc;try simp only[hcs]at hc;try(exfalso;first|contradiction|omega))))
    (apply ret1c; (· exact rfl); (· exact inferInstance); (· exact rfl); (· (repeat (first | exact List.Mem.head _ | apply List.Mem.tail))); (· exact rfl); intro w' hS)
    exact ⟨a2, c2, rfl, hS.toNew (mH _ _)⟩
end Go.Proofs.Ythmmmbphknoagaa

namespace Go.Proofs.Ythmmmbphknoagaa
open Go.Hb
attribute [local irreducible] LR CW At Ev thn blk finK noG again CallsTo DW QL dnext
set_option linter.unusedSimpArgs false
set_option linter.unusedVariables false
set_option maxRecDepth 100000

theorem st_osl1 {b o i q n c : Nat} {x : Int} {l : List Int} (hq : q = o + i) (h : i < l.length) : Stores Try.prog 3 ⟨b, q, none⟩ (.int .i64 x) (osl (.slice (some ⟨b, o, none⟩) n c) 3 1 n (iv l)) (osl (.slice (some ⟨b, o, none⟩) n c) 3 1 n (iv (l.set i x))) := by
  subst hq
  have := Stores.osl (P := Try.prog) (T := 3) (b := b) (o := o) (i := i) (n := n) (c := c) (v := .int .i64 x) (vs := [.int .i64 x]) (xs := iv l) (E := 3) (sz := 1) (q := 1) inferInstance rfl rfl rfl (by simp [iv]; omega)
  rwa [splice_one1 _ _ _ (by simpa using h), iv_set] at this
theorem newTk_ask (r1 r2 s : Int) : (newTk r1 r2 s).1.ask = [] := by
  unfold newTk
  split <;> rfl
set_option maxHeartbeats 4000000 in
theorem t49 (t : Tk) (a : Option Addr) (c : Nat) (ah : Option Addr) (ch : Nat) (hv : List Int) (n0 n1 n2 : Int) (w : World) (hr : Rd w a (iv t.ask)) (hz : a = none → c = 0) (hm : t.ask.length ≤ 17592186043904) (hrh : Rd w ah (iv hv)) (hzh : ah = none → ch = 0) (hmh : hv.length ≤ 17592186043904) (hi : -9223372036854775808 ≤ t.idle) :
    CallsTo Try.prog 49 [t.val a c, .slice ah hv.length ch, .agg [.int .i64 n0, .int .i64 n1, .int .i64 n2].toArray] w fun u w' => u = .bool true ∧ Grew w w' := by
  refine go_in (n := 117) (St.rd2 hr hrh) Try.func49 rfl rfl ?_
  have hX := newTk_ask t.r1 t.r2 n1
  have h22 := fun w1 => t22 t.r1 t.r2 n1 w1
  have h69 := fun w1 => t69 t.r1 t.r2 n1 w1
  generalize hXe : newTk t.r1 t.r2 n1 = XE at hX h22 h69
  obtain ⟨X, e⟩ := XE
  simp only at hX h22 h69
  have hkl := keepI_len hv t.ask
  repeat'(first|(apply kB;(iterate 2 exact rfl);intro _)|(apply CW.reg_heldC)|(apply kp;iterate 2 exact rfl)|apply jJ|(apply jE;exact rfl)|(apply jp;exact rfl)|(apply jc;kernel_rfl)|((first|apply kf|apply kn|apply ke|apply kx|apply kc|apply kb);iterate 2 exact rfl)|((first|apply kz|apply ky);(·exact rfl);(·repeat(first|exact iO|exact iR rfl|apply iT));iterate 2 exact rfl)|(apply kg;iterate 2 exact rfl)|(apply kG;iterate 3 exact rfl)|(apply kB;(iterate 2 exact rfl);intro _)|(apply kA;exact rfl;intro _)|(apply Go.Hb.kK;(iterate 4 exact rfl);intro _)|(apply kU;(iterate 2 exact rfl);(·repeat(first|exact sH _ _ _|apply sT));(first|exact nfL_eq rfl|exact rfl);exact rfl)|((first|apply kh|apply kl);(iterate 2 exact rfl);(first|decide|omega);exact rfl)|(apply LR.call; (· exact rfl); (intro w1 h1; first | (refine (t12 t a c w1 (h1.rd_of (by (repeat (first | exact mH _ _ | apply mT)))) hz hm).mono ?_; rintro v w2 ⟨a1, c1, rfl, hn⟩; have hz1 := ownsAt_nz (ownsAt_of (ownsRow_zero hn.own)); refine LR.back (h1.newSl hn) ?_; clear hn h1) | (refine (t13 ah ch hv w1 (h1.rd_of (by (repeat (first | exact mH _ _ | apply mT)))) hzh hmh).mono ?_; rintro v w2 ⟨a2, c2, rfl, hn⟩; refine LR.back (h1.newSl hn) ?_; clear hn h1) | (refine (t46 t a1 c1 a2 c2 hv w1 (h1.rd_of_own (by (repeat (first | exact mH _ _ | apply mT)))) hz1 hm (h1.rd_of_own (by (repeat (first | exact mH _ _ | apply mT)))) hmh).mono ?_; rintro v w2 ⟨a3, c3, rfl, hn⟩; have hf3 := fun h => (ownsAt_rd hn.own).form h; refine LR.back (St.newOd h1 hn) ?_; clear hn h1) | (refine (t50 t a1 c1 (decide (andI IntKind.i64 n0 1 = 1)) w1 (h1.rd_of_own (by (repeat (first | exact mH _ _ | apply mT)))) hz1 hm hi).mono ?_; rintro v w2 ⟨a4, c4, rfl, hn⟩; have hf4 := fun h => (ownsRow_rd hn.own).form h; refine LR.back (h1.newSl hn) ?_; clear hn h1) | (refine (t70 t a c ah ch hv w1 (h1.rd_of (by (repeat (first | exact mH _ _ | apply mT)))) hm (h1.rd_of (by (repeat (first | exact mH _ _ | apply mT)))) hmh).mono ?_; rintro v w2 ⟨a5, c5, rfl, hn⟩; refine LR.back (h1.newSl hn) ?_; clear hn h1) | (refine (t71 t a c (decide (andI IntKind.i64 n0 1 = 1)) w1 (h1.rd_of (by (repeat (first | exact mH _ _ | apply mT)))) hz hm hi).mono ?_; rintro v w2 ⟨a6, c6, rfl, hn⟩; refine LR.back (h1.newSl hn) ?_; clear hn h1)))|((first|(apply kR;iterate 2 exact rfl)|(apply kQ;exact rfl));all_goals(intro hc;try simp only[hcs]at hc;try(exfalso;first|contradiction|omega))))
  all_goals (
    apply DW.quiet [0, 1]
    · decide +kernel
    · first | exact fun _ h => h | exact fun _ h => St.sub h (by repeat (first | exact List.Sublist.refl _ | apply List.Sublist.cons_cons | apply List.Sublist.cons))
    repeat'(first|(apply yp;iterate 3 exact rfl)|(apply QL.ev;(·exact rfl);(·first|((first|apply Ez|apply Ey);(·exact rfl);(·repeat(first|exact iO|exact iR rfl|apply iT));exact rfl)|((first|apply Ev.fieldAddr|apply Ev.len|apply EqOf.eq|apply EqOf.ne|apply Ev.conv|apply Ev.buildN);exact rfl)|((first|apply Ev.shr|apply Ev.shl);(iterate 2 exact rfl);first|decide|omega));·exact rfl)|(apply yq;iterate 5 exact rfl)|(apply QL.evg;(iterate 3 exact rfl);(·first|((first|apply Ez|apply Ey);(·exact rfl);(·repeat(first|exact iO|exact iR rfl|apply iT));exact rfl)|((first|apply Ev.fieldAddr|apply Ev.len|apply EqOf.eq|apply EqOf.ne|apply Ev.conv|apply Ev.buildN);exact rfl)|((first|apply Ev.shr|apply Ev.shl);(iterate 2 exact rfl);first|decide|omega));·exact rfl)|(apply yn;iterate 4 exact rfl)|((apply QL.split;iterate 3 exact rfl);all_goals(intro hc;try simp only[hcs]at hc;try(exfalso;first|contradiction|omega)))|apply QL.nil)
    all_goals (show DW _ _ _ _ _ _ _ _))
  apply DP.begin []
  refine DP.more (PI.lr 4 8 [] (fun b => .pointer (some ⟨b, 0, none⟩)) (fun b => [.own b (.cells [.int .i64 0, .int .i64 0, .int .i64 0, .int .i64 0, .int .i64 0, .int .i64 0, .int .i64 0, .int .i64 0, .slice none 0 0].toArray 26 (0, 0))]) rfl (fun b x hx => by simp only [List.mem_singleton] at hx; subst hx; rfl) ?_) ?_
  · intro h w2
    apply kA
    · exact rfl
    intro b
    apply kM
    exact At.made rfl
  refine DP.go 2 [4] [8] [[]] rfl rfl rfl rfl (by decide +kernel) ⟨trivial, fun _ _ _ => trivial, trivial⟩ (fun A w' hA => St.sub hA (by simp only [List.cons_append, List.nil_append]; repeat (first | exact List.nil_sublist _ | exact List.Sublist.refl _ | apply List.Sublist.cons_cons | apply List.Sublist.cons))) ?_
  intro gg A LA hLA
  simp only [List.cons_append, List.nil_append] at hLA
  subst hLA
  repeat'(first|(apply kg;iterate 2 exact rfl)|(apply kG;iterate 3 exact rfl)|apply kM|(apply kp;iterate 2 exact rfl)|((first|apply kz|apply ky);(·exact rfl);(·repeat(first|exact iO|exact iR rfl|apply iT));iterate 2 exact rfl)|(apply Go.Hb.kK;(iterate 4 exact rfl);intro _)|(apply kU;(iterate 2 exact rfl);(·repeat(first|exact sH _ _ _|apply sT));(first|exact nfL_eq rfl|exact rfl);exact rfl)|(apply kB;(iterate 2 exact rfl);intro _)|(apply kA;exact rfl;intro _)|(apply LR.call; (· exact rfl); (intro w1 h1; first | (refine (t12 t a c w1 (h1.rd_of (by (repeat (first | exact mH _ _ | apply mT)))) hz hm).mono ?_; rintro v w2 ⟨a1, c1, rfl, hn⟩; have hz1 := ownsAt_nz (ownsAt_of (ownsRow_zero hn.own)); refine LR.back (h1.newSl hn) ?_; clear hn h1) | (refine (t13 ah ch hv w1 (h1.rd_of (by (repeat (first | exact mH _ _ | apply mT)))) hzh hmh).mono ?_; rintro v w2 ⟨a2, c2, rfl, hn⟩; refine LR.back (h1.newSl hn) ?_; clear hn h1) | (refine (t46 t a1 c1 a2 c2 hv w1 (h1.rd_of_own (by (repeat (first | exact mH _ _ | apply mT)))) hz1 hm (h1.rd_of_own (by (repeat (first | exact mH _ _ | apply mT)))) hmh).mono ?_; rintro v w2 ⟨a3, c3, rfl, hn⟩; have hf3 := fun h => (ownsAt_rd hn.own).form h; refine LR.back (St.newOd h1 hn) ?_; clear hn h1) | (refine (t50 t a1 c1 (decide (andI IntKind.i64 n0 1 = 1)) w1 (h1.rd_of_own (by (repeat (first | exact mH _ _ | apply mT)))) hz1 hm hi).mono ?_; rintro v w2 ⟨a4, c4, rfl, hn⟩; have hf4 := fun h => (ownsRow_rd hn.own).form h; refine LR.back (h1.newSl hn) ?_; clear hn h1) | (refine (t70 t a c ah ch hv w1 (h1.rd_of (by (repeat (first | exact mH _ _ | apply mT)))) hm (h1.rd_of (by (repeat (first | exact mH _ _ | apply mT)))) hmh).mono ?_; rintro v w2 ⟨a5, c5, rfl, hn⟩; refine LR.back (h1.newSl hn) ?_; clear hn h1) | (refine (t71 t a c (decide (andI IntKind.i64 n0 1 = 1)) w1 (h1.rd_of (by (repeat (first | exact mH _ _ | apply mT)))) hz hm hi).mono ?_; rintro v w2 ⟨a6, c6, rfl, hn⟩; refine LR.back (h1.newSl hn) ?_; clear hn h1))))
  apply At.pdone (ds := [8]) rfl
  · repeat (first | exact MixR.base _ | (apply MixR.upd; case hd => exact rfl))
  · repeat (first | exact Tl.nil | apply Tl.cons)
  · exact (fun A w' hA => St.sub hA (by simp only [List.cons_append, List.nil_append]; repeat (first | exact List.nil_sublist _ | exact List.Sublist.refl _ | apply List.Sublist.cons_cons | apply List.Sublist.cons)))
  refine DP.go 3 [4] [8] [[]] rfl rfl rfl rfl (by decide +kernel) ⟨trivial, fun _ _ _ => trivial, trivial⟩ (fun A w' hA => St.sub hA (by simp only [List.cons_append, List.nil_append]; repeat (first | exact List.nil_sublist _ | exact List.Sublist.refl _ | apply List.Sublist.cons_cons | apply List.Sublist.cons))) ?_
  intro gg A LA hLA
  simp only [List.cons_append, List.nil_append] at hLA
  subst hLA
  repeat'(first|(apply kg;iterate 2 exact rfl)|(apply kG;iterate 3 exact rfl)|apply kM|(apply kp;iterate 2 exact rfl)|((first|apply kz|apply ky);(·exact rfl);(·repeat(first|exact iO|exact iR rfl|apply iT));iterate 2 exact rfl)|(apply Go.Hb.kK;(iterate 4 exact rfl);intro _)|(apply kU;(iterate 2 exact rfl);(·repeat(first|exact sH _ _ _|apply sT));(first|exact nfL_eq rfl|exact rfl);exact rfl)|(apply kB;(iterate 2 exact rfl);intro _)|(apply kA;exact rfl;intro _)|(apply LR.call; (· exact rfl); (intro w1 h1; first | (refine (t12 t a c w1 (h1.rd_of (by (repeat (first | exact mH _ _ | apply mT)))) hz hm).mono ?_; rintro v w2 ⟨a1, c1, rfl, hn⟩; have hz1 := ownsAt_nz (ownsAt_of (ownsRow_zero hn.own)); refine LR.back (h1.newSl hn) ?_; clear hn h1) | (refine (t13 ah ch hv w1 (h1.rd_of (by (repeat (first | exact mH _ _ | apply mT)))) hzh hmh).mono ?_; rintro v w2 ⟨a2, c2, rfl, hn⟩; refine LR.back (h1.newSl hn) ?_; clear hn h1) | (refine (t46 t a1 c1 a2 c2 hv w1 (h1.rd_of_own (by (repeat (first | exact mH _ _ | apply mT)))) hz1 hm (h1.rd_of_own (by (repeat (first | exact mH _ _ | apply mT)))) hmh).mono ?_; rintro v w2 ⟨a3, c3, rfl, hn⟩; have hf3 := fun h => (ownsAt_rd hn.own).form h; refine LR.back (St.newOd h1 hn) ?_; clear hn h1) | (refine (t50 t a1 c1 (decide (andI IntKind.i64 n0 1 = 1)) w1 (h1.rd_of_own (by (repeat (first | exact mH _ _ | apply mT)))) hz1 hm hi).mono ?_; rintro v w2 ⟨a4, c4, rfl, hn⟩; have hf4 := fun h => (ownsRow_rd hn.own).form h; refine LR.back (h1.newSl hn) ?_; clear hn h1) | (refine (t70 t a c ah ch hv w1 (h1.rd_of (by (repeat (first | exact mH _ _ | apply mT)))) hm (h1.rd_of (by (repeat (first | exact mH _ _ | apply mT)))) hmh).mono ?_; rintro v w2 ⟨a5, c5, rfl, hn⟩; refine LR.back (h1.newSl hn) ?_; clear hn h1) | (refine (t71 t a c (decide (andI IntKind.i64 n0 1 = 1)) w1 (h1.rd_of (by (repeat (first | exact mH _ _ | apply mT)))) hz hm hi).mono ?_; rintro v w2 ⟨a6, c6, rfl, hn⟩; refine LR.back (h1.newSl hn) ?_; clear hn h1))))
  apply At.pdone (ds := [8]) rfl
  · repeat (first | exact MixR.base _ | (apply MixR.upd; case hd => exact rfl))
  · repeat (first | exact Tl.nil | apply Tl.cons)
  · exact (fun A w' hA => St.sub hA (by simp only [List.cons_append, List.nil_append]; repeat (first | exact List.nil_sublist _ | exact List.Sublist.refl _ | apply List.Sublist.cons_cons | apply List.Sublist.cons)))
  refine DP.take 4 8 (fun b => .pointer (some ⟨b, 0, none⟩)) (fun b => [.own b (.cells [.int .i64 0, .int .i64 0, .int .i64 0, .int .i64 0, .int .i64 0, .int .i64 0, .int .i64 0, .int .i64 0, .slice none 0 0].toArray 26 (0, 0))]) [] [8] [[]] rfl rfl rfl rfl rfl rfl rfl (by decide +kernel) ⟨trivial, fun _ _ _ => trivial, trivial⟩ (fun A w' hA => St.sub hA (by simp only [List.cons_append, List.nil_append]; repeat (first | exact List.nil_sublist _ | exact List.Sublist.refl _ | apply List.Sublist.cons_cons | apply List.Sublist.cons))) (fun bp8 => ?_)
  refine DP.nil ?_
  refine DW.castL (by simp only [List.cons_append, List.nil_append]; exact rfl) ?_
  all_goals (
    apply DW.loud 5
    · exact rfl
    · decide +kernel
    repeat'(first|(apply kg;iterate 2 exact rfl)|(apply kG;iterate 3 exact rfl)|apply kM|(apply kp;iterate 2 exact rfl)|((first|apply kz|apply ky);(·exact rfl);(·repeat(first|exact iO|exact iR rfl|apply iT));iterate 2 exact rfl)|(apply Go.Hb.kK;(iterate 4 exact rfl);intro _)|(apply kU;(iterate 2 exact rfl);(·repeat(first|exact sH _ _ _|apply sT));(first|exact nfL_eq rfl|exact rfl);exact rfl)|(apply kB;(iterate 2 exact rfl);intro _)|(apply kA;exact rfl;intro _)|(apply LR.call; (· exact rfl); (intro w1 h1; first | (refine (t12 t a c w1 (h1.rd_of (by (repeat (first | exact mH _ _ | apply mT)))) hz hm).mono ?_; rintro v w2 ⟨a1, c1, rfl, hn⟩; have hz1 := ownsAt_nz (ownsAt_of (ownsRow_zero hn.own)); refine LR.back (h1.newSl hn) ?_; clear hn h1) | (refine (t13 ah ch hv w1 (h1.rd_of (by (repeat (first | exact mH _ _ | apply mT)))) hzh hmh).mono ?_; rintro v w2 ⟨a2, c2, rfl, hn⟩; refine LR.back (h1.newSl hn) ?_; clear hn h1) | (refine (t46 t a1 c1 a2 c2 hv w1 (h1.rd_of_own (by (repeat (first | exact mH _ _ | apply mT)))) hz1 hm (h1.rd_of_own (by (repeat (first | exact mH _ _ | apply mT)))) hmh).mono ?_; rintro v w2 ⟨a3, c3, rfl, hn⟩; have hf3 := fun h => (ownsAt_rd hn.own).form h; refine LR.back (St.newOd h1 hn) ?_; clear hn h1) | (refine (t50 t a1 c1 (decide (andI IntKind.i64 n0 1 = 1)) w1 (h1.rd_of_own (by (repeat (first | exact mH _ _ | apply mT)))) hz1 hm hi).mono ?_; rintro v w2 ⟨a4, c4, rfl, hn⟩; have hf4 := fun h => (ownsRow_rd hn.own).form h; refine LR.back (h1.newSl hn) ?_; clear hn h1) | (refine (t70 t a c ah ch hv w1 (h1.rd_of (by (repeat (first | exact mH _ _ | apply mT)))) hm (h1.rd_of (by (repeat (first | exact mH _ _ | apply mT)))) hmh).mono ?_; rintro v w2 ⟨a5, c5, rfl, hn⟩; refine LR.back (h1.newSl hn) ?_; clear hn h1) | (refine (t71 t a c (decide (andI IntKind.i64 n0 1 = 1)) w1 (h1.rd_of (by (repeat (first | exact mH _ _ | apply mT)))) hz hm hi).mono ?_; rintro v w2 ⟨a6, c6, rfl, hn⟩; refine LR.back (h1.newSl hn) ?_; clear hn h1))))
    all_goals (refine At.stage_same (fun _ h => St.sub h (by repeat (first | exact List.Sublist.refl _ | apply List.Sublist.cons_cons | apply List.Sublist.cons))) ?_))
  all_goals (first | (apply DW.done_thn; (· decide +kernel)) | (apply DW.done; (· decide +kernel)))
  repeat'(first|(apply CW.reg_heldC)|(apply kp;iterate 2 exact rfl)|apply jJ|(apply jE;exact rfl)|(apply jp;exact rfl)|(apply jc;kernel_rfl)|((first|apply kf|apply kn|apply ke|apply kx|apply kc|apply kb);iterate 2 exact rfl)|((first|apply kz|apply ky);(·exact rfl);(·repeat(first|exact iO|exact iR rfl|apply iT));iterate 2 exact rfl)|(apply kg;iterate 2 exact rfl)|(apply kG;iterate 3 exact rfl)|(apply kB;(iterate 2 exact rfl);intro _)|(apply kA;exact rfl;intro _)|(apply Go.Hb.kK;(iterate 4 exact rfl);intro _)|(apply kU;(iterate 2 exact rfl);(·repeat(first|exact sH _ _ _|apply sT));(first|exact nfL_eq rfl|exact rfl);exact rfl)|((first|apply kh|apply kl);(iterate 2 exact rfl);(first|decide|omega);exact rfl)|(apply LR.ev; (· apply Ev.indexArr; (· exact rfl); (· exact rfl); (· first | decide | omega | (dsimp only; omega)); (· first | decide | omega | (dsimp only; omega))); (· exact rfl))|(apply LR.call; (· exact rfl); (intro w1 h1; first | (refine (t12 t a c w1 (h1.rd_of (by (repeat (first | exact mH _ _ | apply mT)))) hz hm).mono ?_; rintro v w2 ⟨a1, c1, rfl, hn⟩; have hz1 := ownsAt_nz (ownsAt_of (ownsRow_zero hn.own)); refine LR.back (h1.newSl hn) ?_; clear hn h1) | (refine (t13 ah ch hv w1 (h1.rd_of (by (repeat (first | exact mH _ _ | apply mT)))) hzh hmh).mono ?_; rintro v w2 ⟨a2, c2, rfl, hn⟩; refine LR.back (h1.newSl hn) ?_; clear hn h1) | (refine (t46 t a1 c1 a2 c2 hv w1 (h1.rd_of_own (by (repeat (first | exact mH _ _ | apply mT)))) hz1 hm (h1.rd_of_own (by (repeat (first | exact mH _ _ | apply mT)))) hmh).mono ?_; rintro v w2 ⟨a3, c3, rfl, hn⟩; have hf3 := fun h => (ownsAt_rd hn.own).form h; refine LR.back (St.newOd h1 hn) ?_; clear hn h1) | (refine (t50 t a1 c1 (decide (andI IntKind.i64 n0 1 = 1)) w1 (h1.rd_of_own (by (repeat (first | exact mH _ _ | apply mT)))) hz1 hm hi).mono ?_; rintro v w2 ⟨a4, c4, rfl, hn⟩; have hf4 := fun h => (ownsRow_rd hn.own).form h; refine LR.back (h1.newSl hn) ?_; clear hn h1) | (refine (t70 t a c ah ch hv w1 (h1.rd_of (by (repeat (first | exact mH _ _ | apply mT)))) hm (h1.rd_of (by (repeat (first | exact mH _ _ | apply mT)))) hmh).mono ?_; rintro v w2 ⟨a5, c5, rfl, hn⟩; refine LR.back (h1.newSl hn) ?_; clear hn h1) | (refine (t71 t a c (decide (andI IntKind.i64 n0 1 = 1)) w1 (h1.rd_of (by (repeat (first | exact mH _ _ | apply mT)))) hz hm hi).mono ?_; rintro v w2 ⟨a6, c6, rfl, hn⟩; refine LR.back (h1.newSl hn) ?_; clear hn h1)))|(apply kq; (· exact rfl); (· intro w1 h1; first | exact CallsTo.q (t20 w1) h1 | exact CallsTo.q (t23 n0 n1 n2 w1) h1 | exact CallsTo.q (t72 n0 n1 n2 w1) h1 | exact CallsTo.q (h22 w1) h1 | exact CallsTo.q (h69 w1) h1 | (have hq := CallsTo.q (t18 X X none none 0 0 w1 (by rw [hX]; exact Rd.nil _ _) (by rw [hX]; exact Rd.nil _ _) (by rw [hX]; simp)) h1; rw [decide_eq_true rfl] at hq; exact hq) | (have hq := CallsTo.q (t18 (answerT t hv) (answerT t hv) a3 a5 c3 c5 w1 (h1.rd_of_odl (by (repeat (first | exact mH _ _ | apply mT)))) (h1.rd_of_own (by (repeat (first | exact mH _ _ | apply mT)))) (by show (keepI hv t.ask).length ≤ _; omega)) h1; rw [decide_eq_true rfl] at hq; exact hq) | (have hq := CallsTo.q (t18 (idleT t (decide (andI IntKind.i64 n0 1 = 1))) (idleT t (decide (andI IntKind.i64 n0 1 = 1))) a4 a6 c4 c6 w1 (h1.rd_of_own (by (repeat (first | exact mH _ _ | apply mT)))) (h1.rd_of_own (by (repeat (first | exact mH _ _ | apply mT)))) hm) h1; rw [decide_eq_true rfl] at hq; exact hq) | (have hq := CallsTo.q (t18 t t a1 a c1 c w1 (h1.rd_of_own (by (repeat (first | exact mH _ _ | apply mT)))) (h1.rd_of (by (repeat (first | exact mH _ _ | apply mT)))) hm) h1; rw [decide_eq_true rfl] at hq; exact hq)))|((first|(apply kR;iterate 2 exact rfl)|(apply kQ;exact rfl));all_goals(intro hc;try simp only[hcs]at hc;try(exfalso;first|contradiction|omega))))
  all_goals (
    apply DW.quiet [0, 1, 2]
    · decide +kernel
    · first | exact fun _ h => h | exact fun _ h => St.sub h (by repeat (first | exact List.Sublist.refl _ | apply List.Sublist.cons_cons | apply List.Sublist.cons))
    repeat'(first|(apply yp;iterate 3 exact rfl)|(apply QL.ev;(·exact rfl);(·first|((first|apply Ez|apply Ey);(·exact rfl);(·repeat(first|exact iO|exact iR rfl|apply iT));exact rfl)|((first|apply Ev.fieldAddr|apply Ev.len|apply EqOf.eq|apply EqOf.ne|apply Ev.conv|apply Ev.buildN);exact rfl)|((first|apply Ev.shr|apply Ev.shl);(iterate 2 exact rfl);first|decide|omega));·exact rfl)|(apply QL.ev; (· exact rfl); (· apply Ev.indexArr; (· exact rfl); (· exact rfl); (· decide); (· decide)); (· exact rfl))|(apply QL.evg; (iterate 3 exact rfl); (· apply Ev.indexArr; (· exact rfl); (· exact rfl); (· decide); (· decide)); (· exact rfl))|(apply yq;iterate 5 exact rfl)|(apply QL.evg;(iterate 3 exact rfl);(·first|((first|apply Ez|apply Ey);(·exact rfl);(·repeat(first|exact iO|exact iR rfl|apply iT));exact rfl)|((first|apply Ev.fieldAddr|apply Ev.len|apply EqOf.eq|apply EqOf.ne|apply Ev.conv|apply Ev.buildN);exact rfl)|((first|apply Ev.shr|apply Ev.shl);(iterate 2 exact rfl);first|decide|omega));·exact rfl)|(apply yn;iterate 4 exact rfl)|((apply QL.split;iterate 3 exact rfl);all_goals(intro hc;try simp only[hcs]at hc;try(exfalso;first|contradiction|omega)))|apply QL.nil)
    all_goals (show DW _ _ _ _ _ _ _ _))
  all_goals (
    apply DW.loud 3
    · exact rfl
    · decide +kernel
    repeat'(first|(apply kg;iterate 2 exact rfl)|(apply kG;iterate 3 exact rfl)|apply kM|(apply kp;iterate 2 exact rfl)|((first|apply kz|apply ky);(·exact rfl);(·repeat(first|exact iO|exact iR rfl|apply iT));iterate 2 exact rfl)|(apply Go.Hb.kK;(iterate 4 exact rfl);intro _)|(apply kU;(iterate 2 exact rfl);(·repeat(first|exact sH _ _ _|apply sT));(first|exact nfL_eq rfl|exact rfl);exact rfl)|(apply kB;(iterate 2 exact rfl);intro _)|(apply kA;exact rfl;intro _)|(apply LR.call; (· exact rfl); (intro w1 h1; first | (refine (t12 t a c w1 (h1.rd_of (by (repeat (first | exact mH _ _ | apply mT)))) hz hm).mono ?_; rintro v w2 ⟨a1, c1, rfl, hn⟩; have hz1 := ownsAt_nz (ownsAt_of (ownsRow_zero hn.own)); refine LR.back (h1.newSl hn) ?_; clear hn h1) | (refine (t13 ah ch hv w1 (h1.rd_of (by (repeat (first | exact mH _ _ | apply mT)))) hzh hmh).mono ?_; rintro v w2 ⟨a2, c2, rfl, hn⟩; refine LR.back (h1.newSl hn) ?_; clear hn h1) | (refine (t46 t a1 c1 a2 c2 hv w1 (h1.rd_of_own (by (repeat (first | exact mH _ _ | apply mT)))) hz1 hm (h1.rd_of_own (by (repeat (first | exact mH _ _ | apply mT)))) hmh).mono ?_; rintro v w2 ⟨a3, c3, rfl, hn⟩; have hf3 := fun h => (ownsAt_rd hn.own).form h; refine LR.back (St.newOd h1 hn) ?_; clear hn h1) | (refine (t50 t a1 c1 (decide (andI IntKind.i64 n0 1 = 1)) w1 (h1.rd_of_own (by (repeat (first | exact mH _ _ | apply mT)))) hz1 hm hi).mono ?_; rintro v w2 ⟨a4, c4, rfl, hn⟩; have hf4 := fun h => (ownsRow_rd hn.own).form h; refine LR.back (h1.newSl hn) ?_; clear hn h1) | (refine (t70 t a c ah ch hv w1 (h1.rd_of (by (repeat (first | exact mH _ _ | apply mT)))) hm (h1.rd_of (by (repeat (first | exact mH _ _ | apply mT)))) hmh).mono ?_; rintro v w2 ⟨a5, c5, rfl, hn⟩; refine LR.back (h1.newSl hn) ?_; clear hn h1) | (refine (t71 t a c (decide (andI IntKind.i64 n0 1 = 1)) w1 (h1.rd_of (by (repeat (first | exact mH _ _ | apply mT)))) hz hm hi).mono ?_; rintro v w2 ⟨a6, c6, rfl, hn⟩; refine LR.back (h1.newSl hn) ?_; clear hn h1)))|(apply kq; (· exact rfl); (· intro w1 h1; first | exact CallsTo.q (t20 w1) h1 | exact CallsTo.q (t23 n0 n1 n2 w1) h1 | exact CallsTo.q (t72 n0 n1 n2 w1) h1 | exact CallsTo.q (h22 w1) h1 | exact CallsTo.q (h69 w1) h1 | (have hq := CallsTo.q (t18 X X none none 0 0 w1 (by rw [hX]; exact Rd.nil _ _) (by rw [hX]; exact Rd.nil _ _) (by rw [hX]; simp)) h1; rw [decide_eq_true rfl] at hq; exact hq) | (have hq := CallsTo.q (t18 (answerT t hv) (answerT t hv) a3 a5 c3 c5 w1 (h1.rd_of_odl (by (repeat (first | exact mH _ _ | apply mT)))) (h1.rd_of_own (by (repeat (first | exact mH _ _ | apply mT)))) (by show (keepI hv t.ask).length ≤ _; omega)) h1; rw [decide_eq_true rfl] at hq; exact hq) | (have hq := CallsTo.q (t18 (idleT t (decide (andI IntKind.i64 n0 1 = 1))) (idleT t (decide (andI IntKind.i64 n0 1 = 1))) a4 a6 c4 c6 w1 (h1.rd_of_own (by (repeat (first | exact mH _ _ | apply mT)))) (h1.rd_of_own (by (repeat (first | exact mH _ _ | apply mT)))) hm) h1; rw [decide_eq_true rfl] at hq; exact hq) | (have hq := CallsTo.q (t18 t t a1 a c1 c w1 (h1.rd_of_own (by (repeat (first | exact mH _ _ | apply mT)))) (h1.rd_of (by (repeat (first | exact mH _ _ | apply mT)))) hm) h1; rw [decide_eq_true rfl] at hq; exact hq))))
    all_goals (refine At.stage_same (fun _ h => St.sub h (by repeat (first | exact List.Sublist.refl _ | apply List.Sublist.cons_cons | apply List.Sublist.cons))) ?_))
  all_goals (
    apply DW.loud 4
    · exact rfl
    · decide +kernel
    repeat'(first|(apply kg;iterate 2 exact rfl)|(apply kG;iterate 3 exact rfl)|apply kM|(apply kp;iterate 2 exact rfl)|((first|apply kz|apply ky);(·exact rfl);(·repeat(first|exact iO|exact iR rfl|apply iT));iterate 2 exact rfl)|(apply Go.Hb.kK;(iterate 4 exact rfl);intro _)|(apply kU;(iterate 2 exact rfl);(·repeat(first|exact sH _ _ _|apply sT));(first|exact nfL_eq rfl|exact rfl);exact rfl)|(apply kB;(iterate 2 exact rfl);intro _)|(apply kA;exact rfl;intro _)|(apply LR.call; (· exact rfl); (intro w1 h1; first | (refine (t12 t a c w1 (h1.rd_of (by (repeat (first | exact mH _ _ | apply mT)))) hz hm).mono ?_; rintro v w2 ⟨a1, c1, rfl, hn⟩; have hz1 := ownsAt_nz (ownsAt_of (ownsRow_zero hn.own)); refine LR.back (h1.newSl hn) ?_; clear hn h1) | (refine (t13 ah ch hv w1 (h1.rd_of (by (repeat (first | exact mH _ _ | apply mT)))) hzh hmh).mono ?_; rintro v w2 ⟨a2, c2, rfl, hn⟩; refine LR.back (h1.newSl hn) ?_; clear hn h1) | (refine (t46 t a1 c1 a2 c2 hv w1 (h1.rd_of_own (by (repeat (first | exact mH _ _ | apply mT)))) hz1 hm (h1.rd_of_own (by (repeat (first | exact mH _ _ | apply mT)))) hmh).mono ?_; rintro v w2 ⟨a3, c3, rfl, hn⟩; have hf3 := fun h => (ownsAt_rd hn.own).form h; refine LR.back (St.newOd h1 hn) ?_; clear hn h1) | (refine (t50 t a1 c1 (decide (andI IntKind.i64 n0 1 = 1)) w1 (h1.rd_of_own (by (repeat (first | exact mH _ _ | apply mT)))) hz1 hm hi).mono ?_; rintro v w2 ⟨a4, c4, rfl, hn⟩; have hf4 := fun h => (ownsRow_rd hn.own).form h; refine LR.back (h1.newSl hn) ?_; clear hn h1) | (refine (t70 t a c ah ch hv w1 (h1.rd_of (by (repeat (first | exact mH _ _ | apply mT)))) hm (h1.rd_of (by (repeat (first | exact mH _ _ | apply mT)))) hmh).mono ?_; rintro v w2 ⟨a5, c5, rfl, hn⟩; refine LR.back (h1.newSl hn) ?_; clear hn h1) | (refine (t71 t a c (decide (andI IntKind.i64 n0 1 = 1)) w1 (h1.rd_of (by (repeat (first | exact mH _ _ | apply mT)))) hz hm hi).mono ?_; rintro v w2 ⟨a6, c6, rfl, hn⟩; refine LR.back (h1.newSl hn) ?_; clear hn h1)))|(apply kq; (· exact rfl); (· intro w1 h1; first | exact CallsTo.q (t20 w1) h1 | exact CallsTo.q (t23 n0 n1 n2 w1) h1 | exact CallsTo.q (t72 n0 n1 n2 w1) h1 | exact CallsTo.q (h22 w1) h1 | exact CallsTo.q (h69 w1) h1 | (have hq := CallsTo.q (t18 X X none none 0 0 w1 (by rw [hX]; exact Rd.nil _ _) (by rw [hX]; exact Rd.nil _ _) (by rw [hX]; simp)) h1; rw [decide_eq_true rfl] at hq; exact hq) | (have hq := CallsTo.q (t18 (answerT t hv) (answerT t hv) a3 a5 c3 c5 w1 (h1.rd_of_odl (by (repeat (first | exact mH _ _ | apply mT)))) (h1.rd_of_own (by (repeat (first | exact mH _ _ | apply mT)))) (by show (keepI hv t.ask).length ≤ _; omega)) h1; rw [decide_eq_true rfl] at hq; exact hq) | (have hq := CallsTo.q (t18 (idleT t (decide (andI IntKind.i64 n0 1 = 1))) (idleT t (decide (andI IntKind.i64 n0 1 = 1))) a4 a6 c4 c6 w1 (h1.rd_of_own (by (repeat (first | exact mH _ _ | apply mT)))) (h1.rd_of_own (by (repeat (first | exact mH _ _ | apply mT)))) hm) h1; rw [decide_eq_true rfl] at hq; exact hq) | (have hq := CallsTo.q (t18 t t a1 a c1 c w1 (h1.rd_of_own (by (repeat (first | exact mH _ _ | apply mT)))) (h1.rd_of (by (repeat (first | exact mH _ _ | apply mT)))) hm) h1; rw [decide_eq_true rfl] at hq; exact hq))))
    all_goals (refine At.stage_same (fun _ h => St.sub h (by repeat (first | exact List.Sublist.refl _ | apply List.Sublist.cons_cons | apply List.Sublist.cons))) ?_))
  all_goals (
    apply DW.quiet [5, 6, 7, 8, 9, 10, 11, 12]
    · decide +kernel
    · first | exact fun _ h => h | exact fun _ h => St.sub h (by repeat (first | exact List.Sublist.refl _ | apply List.Sublist.cons_cons | apply List.Sublist.cons))
    repeat'(first|(apply yp;iterate 3 exact rfl)|(apply QL.ev;(·exact rfl);(·first|((first|apply Ez|apply Ey);(·exact rfl);(·repeat(first|exact iO|exact iR rfl|apply iT));exact rfl)|((first|apply Ev.fieldAddr|apply Ev.len|apply EqOf.eq|apply EqOf.ne|apply Ev.conv|apply Ev.buildN);exact rfl)|((first|apply Ev.shr|apply Ev.shl);(iterate 2 exact rfl);first|decide|omega));·exact rfl)|(apply QL.ev; (· exact rfl); (· apply Ev.indexArr; (· exact rfl); (· exact rfl); (· decide); (· decide)); (· exact rfl))|(apply QL.evg; (iterate 3 exact rfl); (· apply Ev.indexArr; (· exact rfl); (· exact rfl); (· decide); (· decide)); (· exact rfl))|(apply yq;iterate 5 exact rfl)|(apply QL.evg;(iterate 3 exact rfl);(·first|((first|apply Ez|apply Ey);(·exact rfl);(·repeat(first|exact iO|exact iR rfl|apply iT));exact rfl)|((first|apply Ev.fieldAddr|apply Ev.len|apply EqOf.eq|apply EqOf.ne|apply Ev.conv|apply Ev.buildN);exact rfl)|((first|apply Ev.shr|apply Ev.shl);(iterate 2 exact rfl);first|decide|omega));·exact rfl)|(apply yn;iterate 4 exact rfl)|((apply QL.split;iterate 3 exact rfl);all_goals(intro hc;try simp only[hcs]at hc;try(exfalso;first|contradiction|omega)))|apply QL.nil)
    all_goals (show DW _ _ _ _ _ _ _ _))
  all_goals (
    apply DW.loud 13
    · exact rfl
    · decide +kernel
    repeat'(first|(apply kg;iterate 2 exact rfl)|(apply kG;iterate 3 exact rfl)|apply kM|(apply kp;iterate 2 exact rfl)|((first|apply kz|apply ky);(·exact rfl);(·repeat(first|exact iO|exact iR rfl|apply iT));iterate 2 exact rfl)|(apply Go.Hb.kK;(iterate 4 exact rfl);intro _)|(apply kU;(iterate 2 exact rfl);(·repeat(first|exact sH _ _ _|apply sT));(first|exact nfL_eq rfl|exact rfl);exact rfl)|(apply kB;(iterate 2 exact rfl);intro _)|(apply kA;exact rfl;intro _)|(apply LR.call; (· exact rfl); (intro w1 h1; first | (refine (t12 t a c w1 (h1.rd_of (by (repeat (first | exact mH _ _ | apply mT)))) hz hm).mono ?_; rintro v w2 ⟨a1, c1, rfl, hn⟩; have hz1 := ownsAt_nz (ownsAt_of (ownsRow_zero hn.own)); refine LR.back (h1.newSl hn) ?_; clear hn h1) | (refine (t13 ah ch hv w1 (h1.rd_of (by (repeat (first | exact mH _ _ | apply mT)))) hzh hmh).mono ?_; rintro v w2 ⟨a2, c2, rfl, hn⟩; refine LR.back (h1.newSl hn) ?_; clear hn h1) | (refine (t46 t a1 c1 a2 c2 hv w1 (h1.rd_of_own (by (repeat (first | exact mH _ _ | apply mT)))) hz1 hm (h1.rd_of_own (by (repeat (first | exact mH _ _ | apply mT)))) hmh).mono ?_; rintro v w2 ⟨a3, c3, rfl, hn⟩; have hf3 := fun h => (ownsAt_rd hn.own).form h; refine LR.back (St.newOd h1 hn) ?_; clear hn h1) | (refine (t50 t a1 c1 (decide (andI IntKind.i64 n0 1 = 1)) w1 (h1.rd_of_own (by (repeat (first | exact mH _ _ | apply mT)))) hz1 hm hi).mono ?_; rintro v w2 ⟨a4, c4, rfl, hn⟩; have hf4 := fun h => (ownsRow_rd hn.own).form h; refine LR.back (h1.newSl hn) ?_; clear hn h1) | (refine (t70 t a c ah ch hv w1 (h1.rd_of (by (repeat (first | exact mH _ _ | apply mT)))) hm (h1.rd_of (by (repeat (first | exact mH _ _ | apply mT)))) hmh).mono ?_; rintro v w2 ⟨a5, c5, rfl, hn⟩; refine LR.back (h1.newSl hn) ?_; clear hn h1) | (refine (t71 t a c (decide (andI IntKind.i64 n0 1 = 1)) w1 (h1.rd_of (by (repeat (first | exact mH _ _ | apply mT)))) hz hm hi).mono ?_; rintro v w2 ⟨a6, c6, rfl, hn⟩; refine LR.back (h1.newSl hn) ?_; clear hn h1)))|(apply kq; (· exact rfl); (· intro w1 h1; first | exact CallsTo.q (t20 w1) h1 | exact CallsTo.q (t23 n0 n1 n2 w1) h1 | exact CallsTo.q (t72 n0 n1 n2 w1) h1 | exact CallsTo.q (h22 w1) h1 | exact CallsTo.q (h69 w1) h1 | (have hq := CallsTo.q (t18 X X none none 0 0 w1 (by rw [hX]; exact Rd.nil _ _) (by rw [hX]; exact Rd.nil _ _) (by rw [hX]; simp)) h1; rw [decide_eq_true rfl] at hq; exact hq) | (have hq := CallsTo.q (t18 (answerT t hv) (answerT t hv) a3 a5 c3 c5 w1 (h1.rd_of_odl (by (repeat (first | exact mH _ _ | apply mT)))) (h1.rd_of_own (by (repeat (first | exact mH _ _ | apply mT)))) (by show (keepI hv t.ask).length ≤ _; omega)) h1; rw [decide_eq_true rfl] at hq; exact hq) | (have hq := CallsTo.q (t18 (idleT t (decide (andI IntKind.i64 n0 1 = 1))) (idleT t (decide (andI IntKind.i64 n0 1 = 1))) a4 a6 c4 c6 w1 (h1.rd_of_own (by (repeat (first | exact mH _ _ | apply mT)))) (h1.rd_of_own (by (repeat (first | exact mH _ _ | apply mT)))) hm) h1; rw [decide_eq_true rfl] at hq; exact hq) | (have hq := CallsTo.q (t18 t t a1 a c1 c w1 (h1.rd_of_own (by (repeat (first | exact mH _ _ | apply mT)))) (h1.rd_of (by (repeat (first | exact mH _ _ | apply mT)))) hm) h1; rw [decide_eq_true rfl] at hq; exact hq))))
    all_goals (refine At.stage_same (fun _ h => St.sub h (by repeat (first | exact List.Sublist.refl _ | apply List.Sublist.cons_cons | apply List.Sublist.cons))) ?_))
  all_goals (
    apply DW.loud 14
    · exact rfl
    · decide +kernel
    repeat'(first|(apply kg;iterate 2 exact rfl)|(apply kG;iterate 3 exact rfl)|apply kM|(apply kp;iterate 2 exact rfl)|((first|apply kz|apply ky);(·exact rfl);(·repeat(first|exact iO|exact iR rfl|apply iT));iterate 2 exact rfl)|(apply Go.Hb.kK;(iterate 4 exact rfl);intro _)|(apply kU;(iterate 2 exact rfl);(·repeat(first|exact sH _ _ _|apply sT));(first|exact nfL_eq rfl|exact rfl);exact rfl)|(apply kB;(iterate 2 exact rfl);intro _)|(apply kA;exact rfl;intro _)|(apply LR.call; (· exact rfl); (intro w1 h1; first | (refine (t12 t a c w1 (h1.rd_of (by (repeat (first | exact mH _ _ | apply mT)))) hz hm).mono ?_; rintro v w2 ⟨a1, c1, rfl, hn⟩; have hz1 := ownsAt_nz (ownsAt_of (ownsRow_zero hn.own)); refine LR.back (h1.newSl hn) ?_; clear hn h1) | (refine (t13 ah ch hv w1 (h1.rd_of (by (repeat (first | exact mH _ _ | apply mT)))) hzh hmh).mono ?_; rintro v w2 ⟨a2, c2, rfl, hn⟩; refine LR.back (h1.newSl hn) ?_; clear hn h1) | (refine (t46 t a1 c1 a2 c2 hv w1 (h1.rd_of_own (by (repeat (first | exact mH _ _ | apply mT)))) hz1 hm (h1.rd_of_own (by (repeat (first | exact mH _ _ | apply mT)))) hmh).mono ?_; rintro v w2 ⟨a3, c3, rfl, hn⟩; have hf3 := fun h => (ownsAt_rd hn.own).form h; refine LR.back (St.newOd h1 hn) ?_; clear hn h1) | (refine (t50 t a1 c1 (decide (andI IntKind.i64 n0 1 = 1)) w1 (h1.rd_of_own (by (repeat (first | exact mH _ _ | apply mT)))) hz1 hm hi).mono ?_; rintro v w2 ⟨a4, c4, rfl, hn⟩; have hf4 := fun h => (ownsRow_rd hn.own).form h; refine LR.back (h1.newSl hn) ?_; clear hn h1) | (refine (t70 t a c ah ch hv w1 (h1.rd_of (by (repeat (first | exact mH _ _ | apply mT)))) hm (h1.rd_of (by (repeat (first | exact mH _ _ | apply mT)))) hmh).mono ?_; rintro v w2 ⟨a5, c5, rfl, hn⟩; refine LR.back (h1.newSl hn) ?_; clear hn h1) | (refine (t71 t a c (decide (andI IntKind.i64 n0 1 = 1)) w1 (h1.rd_of (by (repeat (first | exact mH _ _ | apply mT)))) hz hm hi).mono ?_; rintro v w2 ⟨a6, c6, rfl, hn⟩; refine LR.back (h1.newSl hn) ?_; clear hn h1)))|(apply kq; (· exact rfl); (· intro w1 h1; first | exact CallsTo.q (t20 w1) h1 | exact CallsTo.q (t23 n0 n1 n2 w1) h1 | exact CallsTo.q (t72 n0 n1 n2 w1) h1 | exact CallsTo.q (h22 w1) h1 | exact CallsTo.q (h69 w1) h1 | (have hq := CallsTo.q (t18 X X none none 0 0 w1 (by rw [hX]; exact Rd.nil _ _) (by rw [hX]; exact Rd.nil _ _) (by rw [hX]; simp)) h1; rw [decide_eq_true rfl] at hq; exact hq) | (have hq := CallsTo.q (t18 (answerT t hv) (answerT t hv) a3 a5 c3 c5 w1 (h1.rd_of_odl (by (repeat (first | exact mH _ _ | apply mT)))) (h1.rd_of_own (by (repeat (first | exact mH _ _ | apply mT)))) (by show (keepI hv t.ask).length ≤ _; omega)) h1; rw [decide_eq_true rfl] at hq; exact hq) | (have hq := CallsTo.q (t18 (idleT t (decide (andI IntKind.i64 n0 1 = 1))) (idleT t (decide (andI IntKind.i64 n0 1 = 1))) a4 a6 c4 c6 w1 (h1.rd_of_own (by (repeat (first | exact mH _ _ | apply mT)))) (h1.rd_of_own (by (repeat (first | exact mH _ _ | apply mT)))) hm) h1; rw [decide_eq_true rfl] at hq; exact hq) | (have hq := CallsTo.q (t18 t t a1 a c1 c w1 (h1.rd_of_own (by (repeat (first | exact mH _ _ | apply mT)))) (h1.rd_of (by (repeat (first | exact mH _ _ | apply mT)))) hm) h1; rw [decide_eq_true rfl] at hq; exact hq))))
    all_goals (refine At.stage_same (fun _ h => St.sub h (by repeat (first | exact List.Sublist.refl _ | apply List.Sublist.cons_cons | apply List.Sublist.cons))) ?_))
  all_goals (
    apply DW.quiet [15, 16, 17, 18, 19, 20, 21, 22, 23, 24]
    · decide +kernel
    · first | exact fun _ h => h | exact fun _ h => St.sub h (by repeat (first | exact List.Sublist.refl _ | apply List.Sublist.cons_cons | apply List.Sublist.cons))
    repeat'(first|(apply yp;iterate 3 exact rfl)|(apply QL.ev;(·exact rfl);(·first|((first|apply Ez|apply Ey);(·exact rfl);(·repeat(first|exact iO|exact iR rfl|apply iT));exact rfl)|((first|apply Ev.fieldAddr|apply Ev.len|apply EqOf.eq|apply EqOf.ne|apply Ev.conv|apply Ev.buildN);exact rfl)|((first|apply Ev.shr|apply Ev.shl);(iterate 2 exact rfl);first|decide|omega));·exact rfl)|(apply QL.ev; (· exact rfl); (· apply Ev.indexArr; (· exact rfl); (· exact rfl); (· decide); (· decide)); (· exact rfl))|(apply QL.evg; (iterate 3 exact rfl); (· apply Ev.indexArr; (· exact rfl); (· exact rfl); (· decide); (· decide)); (· exact rfl))|(apply yq;iterate 5 exact rfl)|(apply QL.evg;(iterate 3 exact rfl);(·first|((first|apply Ez|apply Ey);(·exact rfl);(·repeat(first|exact iO|exact iR rfl|apply iT));exact rfl)|((first|apply Ev.fieldAddr|apply Ev.len|apply EqOf.eq|apply EqOf.ne|apply Ev.conv|apply Ev.buildN);exact rfl)|((first|apply Ev.shr|apply Ev.shl);(iterate 2 exact rfl);first|decide|omega));·exact rfl)|(apply yn;iterate 4 exact rfl)|((apply QL.split;iterate 3 exact rfl);all_goals(intro hc;try simp only[hcs]at hc;try(exfalso;first|contradiction|omega)))|apply QL.nil)
    all_goals (show DW _ _ _ _ _ _ _ _))
  all_goals (
    apply DW.loud 25
    · exact rfl
    · decide +kernel
    repeat'(first|(apply kg;iterate 2 exact rfl)|(apply kG;iterate 3 exact rfl)|apply kM|(apply kp;iterate 2 exact rfl)|((first|apply kz|apply ky);(·exact rfl);(·repeat(first|exact iO|exact iR rfl|apply iT));iterate 2 exact rfl)|(apply Go.Hb.kK;(iterate 4 exact rfl);intro _)|(apply kU;(iterate 2 exact rfl);(·repeat(first|exact sH _ _ _|apply sT));(first|exact nfL_eq rfl|exact rfl);exact rfl)|(apply kB;(iterate 2 exact rfl);intro _)|(apply kA;exact rfl;intro _)|(apply LR.call; (· exact rfl); (intro w1 h1; first | (refine (t12 t a c w1 (h1.rd_of (by (repeat (first | exact mH _ _ | apply mT)))) hz hm).mono ?_; rintro v w2 ⟨a1, c1, rfl, hn⟩; have hz1 := ownsAt_nz (ownsAt_of (ownsRow_zero hn.own)); refine LR.back (h1.newSl hn) ?_; clear hn h1) | (refine (t13 ah ch hv w1 (h1.rd_of (by (repeat (first | exact mH _ _ | apply mT)))) hzh hmh).mono ?_; rintro v w2 ⟨a2, c2, rfl, hn⟩; refine LR.back (h1.newSl hn) ?_; clear hn h1) | (refine (t46 t a1 c1 a2 c2 hv w1 (h1.rd_of_own (by (repeat (first | exact mH _ _ | apply mT)))) hz1 hm (h1.rd_of_own (by (repeat (first | exact mH _ _ | apply mT)))) hmh).mono ?_; rintro v w2 ⟨a3, c3, rfl, hn⟩; have hf3 := fun h => (ownsAt_rd hn.own).form h; refine LR.back (St.newOd h1 hn) ?_; clear hn h1) | (refine (t50 t a1 c1 (decide (andI IntKind.i64 n0 1 = 1)) w1 (h1.rd_of_own (by (repeat (first | exact mH _ _ | apply mT)))) hz1 hm hi).mono ?_; rintro v w2 ⟨a4, c4, rfl, hn⟩; have hf4 := fun h => (ownsRow_rd hn.own).form h; refine LR.back (h1.newSl hn) ?_; clear hn h1) | (refine (t70 t a c ah ch hv w1 (h1.rd_of (by (repeat (first | exact mH _ _ | apply mT)))) hm (h1.rd_of (by (repeat (first | exact mH _ _ | apply mT)))) hmh).mono ?_; rintro v w2 ⟨a5, c5, rfl, hn⟩; refine LR.back (h1.newSl hn) ?_; clear hn h1) | (refine (t71 t a c (decide (andI IntKind.i64 n0 1 = 1)) w1 (h1.rd_of (by (repeat (first | exact mH _ _ | apply mT)))) hz hm hi).mono ?_; rintro v w2 ⟨a6, c6, rfl, hn⟩; refine LR.back (h1.newSl hn) ?_; clear hn h1)))|(apply kq; (· exact rfl); (· intro w1 h1; first | exact CallsTo.q (t20 w1) h1 | exact CallsTo.q (t23 n0 n1 n2 w1) h1 | exact CallsTo.q (t72 n0 n1 n2 w1) h1 | exact CallsTo.q (h22 w1) h1 | exact CallsTo.q (h69 w1) h1 | (have hq := CallsTo.q (t18 X X none none 0 0 w1 (by rw [hX]; exact Rd.nil _ _) (by rw [hX]; exact Rd.nil _ _) (by rw [hX]; simp)) h1; rw [decide_eq_true rfl] at hq; exact hq) | (have hq := CallsTo.q (t18 (answerT t hv) (answerT t hv) a3 a5 c3 c5 w1 (h1.rd_of_odl (by (repeat (first | exact mH _ _ | apply mT)))) (h1.rd_of_own (by (repeat (first | exact mH _ _ | apply mT)))) (by show (keepI hv t.ask).length ≤ _; omega)) h1; rw [decide_eq_true rfl] at hq; exact hq) | (have hq := CallsTo.q (t18 (idleT t (decide (andI IntKind.i64 n0 1 = 1))) (idleT t (decide (andI IntKind.i64 n0 1 = 1))) a4 a6 c4 c6 w1 (h1.rd_of_own (by (repeat (first | exact mH _ _ | apply mT)))) (h1.rd_of_own (by (repeat (first | exact mH _ _ | apply mT)))) hm) h1; rw [decide_eq_true rfl] at hq; exact hq) | (have hq := CallsTo.q (t18 t t a1 a c1 c w1 (h1.rd_of_own (by (repeat (first | exact mH _ _ | apply mT)))) (h1.rd_of (by (repeat (first | exact mH _ _ | apply mT)))) hm) h1; rw [decide_eq_true rfl] at hq; exact hq))))
    all_goals (refine At.stage_same (fun _ h => St.sub h (by repeat (first | exact List.Sublist.refl _ | apply List.Sublist.cons_cons | apply List.Sublist.cons))) ?_))
  all_goals (
    apply DW.quiet [26, 27, 28, 29, 30, 31, 32, 33, 34, 36, 37, 38, 39, 40, 41]
    · decide +kernel
    · first | exact fun _ h => h | exact fun _ h => St.sub h (by repeat (first | exact List.Sublist.refl _ | apply List.Sublist.cons_cons | apply List.Sublist.cons))
    repeat'(first|(apply yp;iterate 3 exact rfl)|(apply QL.ev;(·exact rfl);(·first|((first|apply Ez|apply Ey);(·exact rfl);(·repeat(first|exact iO|exact iR rfl|apply iT));exact rfl)|((first|apply Ev.fieldAddr|apply Ev.len|apply EqOf.eq|apply EqOf.ne|apply Ev.conv|apply Ev.buildN);exact rfl)|((first|apply Ev.shr|apply Ev.shl);(iterate 2 exact rfl);first|decide|omega));·exact rfl)|(apply QL.ev; (· exact rfl); (· apply Ev.indexArr; (· exact rfl); (· exact rfl); (· decide); (· decide)); (· exact rfl))|(apply QL.evg; (iterate 3 exact rfl); (· apply Ev.indexArr; (· exact rfl); (· exact rfl); (· decide); (· decide)); (· exact rfl))|(apply yq;iterate 5 exact rfl)|(apply QL.evg;(iterate 3 exact rfl);(·first|((first|apply Ez|apply Ey);(·exact rfl);(·repeat(first|exact iO|exact iR rfl|apply iT));exact rfl)|((first|apply Ev.fieldAddr|apply Ev.len|apply EqOf.eq|apply EqOf.ne|apply Ev.conv|apply Ev.buildN);exact rfl)|((first|apply Ev.shr|apply Ev.shl);(iterate 2 exact rfl);first|decide|omega));·exact rfl)|(apply yn;iterate 4 exact rfl)|((apply QL.split;iterate 3 exact rfl);all_goals(intro hc;try simp only[hcs]at hc;try(exfalso;first|contradiction|omega)))|apply QL.nil)
    all_goals (show DW _ _ _ _ _ _ _ _))
  all_goals (
    apply DW.loud 35
    · exact rfl
    · decide +kernel
    repeat'(first|(apply kg;iterate 2 exact rfl)|(apply kG;iterate 3 exact rfl)|apply kM|(apply kp;iterate 2 exact rfl)|((first|apply kz|apply ky);(·exact rfl);(·repeat(first|exact iO|exact iR rfl|apply iT));iterate 2 exact rfl)|(apply Go.Hb.kK;(iterate 4 exact rfl);intro _)|(apply kU;(iterate 2 exact rfl);(·repeat(first|exact sH _ _ _|apply sT));(first|exact nfL_eq rfl|exact rfl);exact rfl)|(apply kB;(iterate 2 exact rfl);intro _)|(apply kA;exact rfl;intro _)|(apply LR.call; (· exact rfl); (intro w1 h1; first | (refine (t12 t a c w1 (h1.rd_of (by (repeat (first | exact mH _ _ | apply mT)))) hz hm).mono ?_; rintro v w2 ⟨a1, c1, rfl, hn⟩; have hz1 := ownsAt_nz (ownsAt_of (ownsRow_zero hn.own)); refine LR.back (h1.newSl hn) ?_; clear hn h1) | (refine (t13 ah ch hv w1 (h1.rd_of (by (repeat (first | exact mH _ _ | apply mT)))) hzh hmh).mono ?_; rintro v w2 ⟨a2, c2, rfl, hn⟩; refine LR.back (h1.newSl hn) ?_; clear hn h1) | (refine (t46 t a1 c1 a2 c2 hv w1 (h1.rd_of_own (by (repeat (first | exact mH _ _ | apply mT)))) hz1 hm (h1.rd_of_own (by (repeat (first | exact mH _ _ | apply mT)))) hmh).mono ?_; rintro v w2 ⟨a3, c3, rfl, hn⟩; have hf3 := fun h => (ownsAt_rd hn.own).form h; refine LR.back (St.newOd h1 hn) ?_; clear hn h1) | (refine (t50 t a1 c1 (decide (andI IntKind.i64 n0 1 = 1)) w1 (h1.rd_of_own (by (repeat (first | exact mH _ _ | apply mT)))) hz1 hm hi).mono ?_; rintro v w2 ⟨a4, c4, rfl, hn⟩; have hf4 := fun h => (ownsRow_rd hn.own).form h; refine LR.back (h1.newSl hn) ?_; clear hn h1) | (refine (t70 t a c ah ch hv w1 (h1.rd_of (by (repeat (first | exact mH _ _ | apply mT)))) hm (h1.rd_of (by (repeat (first | exact mH _ _ | apply mT)))) hmh).mono ?_; rintro v w2 ⟨a5, c5, rfl, hn⟩; refine LR.back (h1.newSl hn) ?_; clear hn h1) | (refine (t71 t a c (decide (andI IntKind.i64 n0 1 = 1)) w1 (h1.rd_of (by (repeat (first | exact mH _ _ | apply mT)))) hz hm hi).mono ?_; rintro v w2 ⟨a6, c6, rfl, hn⟩; refine LR.back (h1.newSl hn) ?_; clear hn h1)))|(apply kq; (· exact rfl); (· intro w1 h1; first | exact CallsTo.q (t20 w1) h1 | exact CallsTo.q (t23 n0 n1 n2 w1) h1 | exact CallsTo.q (t72 n0 n1 n2 w1) h1 | exact CallsTo.q (h22 w1) h1 | exact CallsTo.q (h69 w1) h1 | (have hq := CallsTo.q (t18 X X none none 0 0 w1 (by rw [hX]; exact Rd.nil _ _) (by rw [hX]; exact Rd.nil _ _) (by rw [hX]; simp)) h1; rw [decide_eq_true rfl] at hq; exact hq) | (have hq := CallsTo.q (t18 (answerT t hv) (answerT t hv) a3 a5 c3 c5 w1 (h1.rd_of_odl (by (repeat (first | exact mH _ _ | apply mT)))) (h1.rd_of_own (by (repeat (first | exact mH _ _ | apply mT)))) (by show (keepI hv t.ask).length ≤ _; omega)) h1; rw [decide_eq_true rfl] at hq; exact hq) | (have hq := CallsTo.q (t18 (idleT t (decide (andI IntKind.i64 n0 1 = 1))) (idleT t (decide (andI IntKind.i64 n0 1 = 1))) a4 a6 c4 c6 w1 (h1.rd_of_own (by (repeat (first | exact mH _ _ | apply mT)))) (h1.rd_of_own (by (repeat (first | exact mH _ _ | apply mT)))) hm) h1; rw [decide_eq_true rfl] at hq; exact hq) | (have hq := CallsTo.q (t18 t t a1 a c1 c w1 (h1.rd_of_own (by (repeat (first | exact mH _ _ | apply mT)))) (h1.rd_of (by (repeat (first | exact mH _ _ | apply mT)))) hm) h1; rw [decide_eq_true rfl] at hq; exact hq))))
    all_goals (refine At.stage_same (fun _ h => St.sub h (by repeat (first | exact List.Sublist.refl _ | apply List.Sublist.cons_cons | apply List.Sublist.cons))) ?_))
  all_goals (
    apply DW.loud 42
    · exact rfl
    · decide +kernel
    repeat'(first|(apply kg;iterate 2 exact rfl)|(apply kG;iterate 3 exact rfl)|apply kM|(apply kp;iterate 2 exact rfl)|((first|apply kz|apply ky);(·exact rfl);(·repeat(first|exact iO|exact iR rfl|apply iT));iterate 2 exact rfl)|(apply Go.Hb.kK;(iterate 4 exact rfl);intro _)|(apply kU;(iterate 2 exact rfl);(·repeat(first|exact sH _ _ _|apply sT));(first|exact nfL_eq rfl|exact rfl);exact rfl)|(apply kB;(iterate 2 exact rfl);intro _)|(apply kA;exact rfl;intro _)|(apply LR.call; (· exact rfl); (intro w1 h1; first | (refine (t12 t a c w1 (h1.rd_of (by (repeat (first | exact mH _ _ | apply mT)))) hz hm).mono ?_; rintro v w2 ⟨a1, c1, rfl, hn⟩; have hz1 := ownsAt_nz (ownsAt_of (ownsRow_zero hn.own)); refine LR.back (h1.newSl hn) ?_; clear hn h1) | (refine (t13 ah ch hv w1 (h1.rd_of (by (repeat (first | exact mH _ _ | apply mT)))) hzh hmh).mono ?_; rintro v w2 ⟨a2, c2, rfl, hn⟩; refine LR.back (h1.newSl hn) ?_; clear hn h1) | (refine (t46 t a1 c1 a2 c2 hv w1 (h1.rd_of_own (by (repeat (first | exact mH _ _ | apply mT)))) hz1 hm (h1.rd_of_own (by (repeat (first | exact mH _ _ | apply mT)))) hmh).mono ?_; rintro v w2 ⟨a3, c3, rfl, hn⟩; have hf3 := fun h => (ownsAt_rd hn.own).form h; refine LR.back (St.newOd h1 hn) ?_; clear hn h1) | (refine (t50 t a1 c1 (decide (andI IntKind.i64 n0 1 = 1)) w1 (h1.rd_of_own (by (repeat (first | exact mH _ _ | apply mT)))) hz1 hm hi).mono ?_; rintro v w2 ⟨a4, c4, rfl, hn⟩; have hf4 := fun h => (ownsRow_rd hn.own).form h; refine LR.back (h1.newSl hn) ?_; clear hn h1) | (refine (t70 t a c ah ch hv w1 (h1.rd_of (by (repeat (first | exact mH _ _ | apply mT)))) hm (h1.rd_of (by (repeat (first | exact mH _ _ | apply mT)))) hmh).mono ?_; rintro v w2 ⟨a5, c5, rfl, hn⟩; refine LR.back (h1.newSl hn) ?_; clear hn h1) | (refine (t71 t a c (decide (andI IntKind.i64 n0 1 = 1)) w1 (h1.rd_of (by (repeat (first | exact mH _ _ | apply mT)))) hz hm hi).mono ?_; rintro v w2 ⟨a6, c6, rfl, hn⟩; refine LR.back (h1.newSl hn) ?_; clear hn h1)))|(apply kq; (· exact rfl); (· intro w1 h1; first | exact CallsTo.q (t20 w1) h1 | exact CallsTo.q (t23 n0 n1 n2 w1) h1 | exact CallsTo.q (t72 n0 n1 n2 w1) h1 | exact CallsTo.q (h22 w1) h1 | exact CallsTo.q (h69 w1) h1 | (have hq := CallsTo.q (t18 X X none none 0 0 w1 (by rw [hX]; exact Rd.nil _ _) (by rw [hX]; exact Rd.nil _ _) (by rw [hX]; simp)) h1; rw [decide_eq_true rfl] at hq; exact hq) | (have hq := CallsTo.q (t18 (answerT t hv) (answerT t hv) a3 a5 c3 c5 w1 (h1.rd_of_odl (by (repeat (first | exact mH _ _ | apply mT)))) (h1.rd_of_own (by (repeat (first | exact mH _ _ | apply mT)))) (by show (keepI hv t.ask).length ≤ _; omega)) h1; rw [decide_eq_true rfl] at hq; exact hq) | (have hq := CallsTo.q (t18 (idleT t (decide (andI IntKind.i64 n0 1 = 1))) (idleT t (decide (andI IntKind.i64 n0 1 = 1))) a4 a6 c4 c6 w1 (h1.rd_of_own (by (repeat (first | exact mH _ _ | apply mT)))) (h1.rd_of_own (by (repeat (first | exact mH _ _ | apply mT)))) hm) h1; rw [decide_eq_true rfl] at hq; exact hq) | (have hq := CallsTo.q (t18 t t a1 a c1 c w1 (h1.rd_of_own (by (repeat (first | exact mH _ _ | apply mT)))) (h1.rd_of (by (repeat (first | exact mH _ _ | apply mT)))) hm) h1; rw [decide_eq_true rfl] at hq; exact hq))))
    all_goals (refine At.stage_same (fun _ h => St.sub h (by repeat (first | exact List.Sublist.refl _ | apply List.Sublist.cons_cons | apply List.Sublist.cons))) ?_))
  all_goals (
    apply DW.quiet [43, 44]
    · decide +kernel
    · first | exact fun _ h => h | exact fun _ h => St.sub h (by repeat (first | exact List.Sublist.refl _ | apply List.Sublist.cons_cons | apply List.Sublist.cons))
    repeat'(first|(apply yp;iterate 3 exact rfl)|(apply QL.ev;(·exact rfl);(·first|((first|apply Ez|apply Ey);(·exact rfl);(·repeat(first|exact iO|exact iR rfl|apply iT));exact rfl)|((first|apply Ev.fieldAddr|apply Ev.len|apply EqOf.eq|apply EqOf.ne|apply Ev.conv|apply Ev.buildN);exact rfl)|((first|apply Ev.shr|apply Ev.shl);(iterate 2 exact rfl);first|decide|omega));·exact rfl)|(apply QL.ev; (· exact rfl); (· apply Ev.indexArr; (· exact rfl); (· exact rfl); (· decide); (· decide)); (· exact rfl))|(apply QL.evg; (iterate 3 exact rfl); (· apply Ev.indexArr; (· exact rfl); (· exact rfl); (· decide); (· decide)); (· exact rfl))|(apply yq;iterate 5 exact rfl)|(apply QL.evg;(iterate 3 exact rfl);(·first|((first|apply Ez|apply Ey);(·exact rfl);(·repeat(first|exact iO|exact iR rfl|apply iT));exact rfl)|((first|apply Ev.fieldAddr|apply Ev.len|apply EqOf.eq|apply EqOf.ne|apply Ev.conv|apply Ev.buildN);exact rfl)|((first|apply Ev.shr|apply Ev.shl);(iterate 2 exact rfl);first|decide|omega));·exact rfl)|(apply yn;iterate 4 exact rfl)|((apply QL.split;iterate 3 exact rfl);all_goals(intro hc;try simp only[hcs]at hc;try(exfalso;first|contradiction|omega)))|apply QL.nil)
    all_goals (show DW _ _ _ _ _ _ _ _))
  all_goals (first | (apply DW.done_thn; (· decide +kernel)) | (apply DW.done; (· decide +kernel)))
  have hka : (answerT t hv).ask.length = (keepI hv t.ask).length := rfl
  have hid : (idleT t (decide (andI IntKind.i64 n0 1 = 1))).ask.length = t.ask.length := rfl
  rename_i p3 p5 x1 x2 p7 x3 x4 x5 x6 x7 x8 x9 x10 p9 p10 p12 x11 x12
  repeat'(first|(apply kp;iterate 2 exact rfl)|apply jJ|(apply jE;exact rfl)|(apply jp;exact rfl)|(apply jc;kernel_rfl)|((first|apply kf|apply kn|apply ke|apply kx|apply kc|apply kb);iterate 2 exact rfl)|((first|apply kz|apply ky);(·exact rfl);(·repeat(first|exact iO|exact iR rfl|apply iT));iterate 2 exact rfl)|(apply kg;iterate 2 exact rfl)|(apply kG;iterate 3 exact rfl)|(apply kB;(iterate 2 exact rfl);intro _)|(apply kA;exact rfl;intro _)|(apply Go.Hb.kK;(iterate 4 exact rfl);intro _)|(apply kU;(iterate 2 exact rfl);(·repeat(first|exact sH _ _ _|apply sT));(first|exact nfL_eq rfl|exact rfl);exact rfl)|((first|apply kh|apply kl);(iterate 2 exact rfl);(first|decide|omega);exact rfl)|((first|(apply kR;iterate 2 exact rfl)|(apply kQ;exact rfl));all_goals(intro hc;try simp only[hcs]at hc;try(exfalso;first|contradiction|omega))))
  apply CW.loop [14, 89, 90, 91, 92, 93, 94, 95, 96, 97, 98, 99] (fun s : Nat × List Int => s.1 ≤ (keepI hv t.ask).length ∧ s.2.length = (keepI hv t.ask).length) (fun s => [(14, .int .i64 (s.1 : Int))])
    (fun s => St w NoF [osl (.slice a6 t.ask.length c6) 3 1 t.ask.length (iv t.ask), osl (.slice a5 (keepI hv t.ask).length c5) 3 1 (keepI hv t.ask).length (iv (keepI hv t.ask)), tkI p12 X none 0, tkI p10 X none 0, tkI p9 (idleT t (decide (andI IntKind.i64 n0 1 = 1))) a4 c4, osl (.slice a4 t.ask.length c4) 3 1 t.ask.length (iv t.ask), tkI bp8 (answerT t hv) a3 c3, odl (.slice a3 (keepI hv t.ask).length c3) 3 1 (keepI hv t.ask).length (iv s.2), osl (.slice a2 hv.length c2) 3 1 hv.length (iv hv), tkI p7 t a1 c1, osl (.slice a1 t.ask.length c1) 3 1 t.ask.length (iv t.ask), .own p5 (.cells #[.int .i64 n0, .int .i64 n1, .int .i64 n2] 87 (0, 0)), tkI p3 t a c, rdA a (iv t.ask), rdA ah (iv hv)]) (fun s => (keepI hv t.ask).length - s.1)
  · exact fun w' hw' => ⟨(0, keepI hv t.ask), ⟨by simp, rfl⟩, ⟨rfl, trivial⟩, hw'⟩
  rintro ⟨i, l⟩ g1 ⟨hil, hl⟩
  simp only at hil hl ⊢
  by_cases hlt : i < (keepI hv t.ask).length
  · obtain ⟨ba, oa, rfl⟩ := hf3 (fun e => by have := congrArg List.length e; simp at this; simp [this] at hlt)
    repeat'(first|(apply kp;iterate 2 exact rfl)|apply jJ|(apply jE;exact rfl)|(apply jp;exact rfl)|(apply jc;kernel_rfl)|((first|apply kf|apply kn|apply ke|apply kx|apply kc|apply kb);iterate 2 exact rfl)|((first|apply kz|apply ky);(·exact rfl);(·repeat(first|exact iO|exact iR rfl|apply iT));iterate 2 exact rfl)|(apply kg;iterate 2 exact rfl)|(apply kG;iterate 3 exact rfl)|(apply kB;(iterate 2 exact rfl);intro _)|(apply kA;exact rfl;intro _)|(apply Go.Hb.kK;(iterate 4 exact rfl);intro _)|(apply kU;(iterate 2 exact rfl);(·repeat(first|exact sH _ _ _|apply sT));(first|exact nfL_eq rfl|exact rfl);exact rfl)|((first|apply kh|apply kl);(iterate 2 exact rfl);(first|decide|omega);exact rfl)|(apply idxX;(iterate 2 exact rfl);(iterate 2(first|omega|(dsimp only;omega)));exact rfl)|((first|(apply kR;iterate 2 exact rfl)|(apply kQ;exact rfl));all_goals(intro hc;try simp only[hcs]at hc;try(exfalso;first|contradiction|omega))))
    refine LR.store_obj (v := .int .i64 (-1)) (z := odl (.slice (some ⟨ba, oa, none⟩) (keepI hv t.ask).length c3) 3 1 (keepI hv t.ask).length (iv l)) (z' := odl (.slice (some ⟨ba, oa, none⟩) (keepI hv t.ask).length c3) 3 1 (keepI hv t.ask).length (iv (l.set i (-1)))) rfl rfl (by (repeat (first | exact sH _ _ _ | apply sT))) rfl (st_odl1 (by simp) (by omega)) (odl.dep _ _ _ _ _) ?_
    repeat'(first|(apply kp;iterate 2 exact rfl)|apply jJ|(apply jE;exact rfl)|(apply jp;exact rfl)|(apply jc;kernel_rfl)|((first|apply kf|apply kn|apply ke|apply kx|apply kc|apply kb);iterate 2 exact rfl)|((first|apply kz|apply ky);(·exact rfl);(·repeat(first|exact iO|exact iR rfl|apply iT));iterate 2 exact rfl)|(apply kg;iterate 2 exact rfl)|(apply kG;iterate 3 exact rfl)|(apply kB;(iterate 2 exact rfl);intro _)|(apply kA;exact rfl;intro _)|(apply Go.Hb.kK;(iterate 4 exact rfl);intro _)|(apply kU;(iterate 2 exact rfl);(·repeat(first|exact sH _ _ _|apply sT));(first|exact nfL_eq rfl|exact rfl);exact rfl)|((first|apply kh|apply kl);(iterate 2 exact rfl);(first|decide|omega);exact rfl)|(apply addX;(iterate 2 exact rfl);(iterate 2(first|omega|(dsimp only;omega)));exact rfl)|((first|(apply kR;iterate 2 exact rfl)|(apply kQ;exact rfl));all_goals(intro hc;try simp only[hcs]at hc;try(exfalso;first|contradiction|omega))))
    refine At.again (i + 1, l.set i (-1)) ⟨by simp only; omega, by simp only [List.length_set]; exact hl⟩ ?_ ⟨rfl, trivial⟩ (fun w' hw' => hw') (by simp only; omega)
    (repeat (first | exact Out.refl _ _ | exact Out.mix | (apply Out.upd; (· exact rfl)) | (apply Out.updL; (· exact rfl)) | (apply Out.mixs; (· exact rfl))))
  · have hie : (keepI hv t.ask).length = i := by omega
    repeat'(first|(apply kp;iterate 2 exact rfl)|apply jJ|(apply jE;exact rfl)|(apply jp;exact rfl)|(apply jc;kernel_rfl)|((first|apply kf|apply kn|apply ke|apply kx|apply kc|apply kb);iterate 2 exact rfl)|((first|apply kz|apply ky);(·exact rfl);(·repeat(first|exact iO|exact iR rfl|apply iT));iterate 2 exact rfl)|(apply kg;iterate 2 exact rfl)|(apply kG;iterate 3 exact rfl)|(apply kB;(iterate 2 exact rfl);intro _)|(apply kA;exact rfl;intro _)|(apply Go.Hb.kK;(iterate 4 exact rfl);intro _)|(apply kU;(iterate 2 exact rfl);(·repeat(first|exact sH _ _ _|apply sT));(first|exact nfL_eq rfl|exact rfl);exact rfl)|((first|apply kh|apply kl);(iterate 2 exact rfl);(first|decide|omega);exact rfl)|((first|(apply kR;iterate 2 exact rfl)|(apply kQ;exact rfl));all_goals(intro hc;try simp only[hcs]at hc;try(exfalso;first|contradiction|omega))))
    apply CW.loop [15, 100, 101, 102, 103, 104, 105, 106, 107, 108, 109, 110] (fun s : Nat × List Int => s.1 ≤ t.ask.length ∧ s.2.length = t.ask.length) (fun s => [(15, .int .i64 (s.1 : Int))])
      (fun s => St w NoF [osl (.slice a6 t.ask.length c6) 3 1 t.ask.length (iv t.ask), osl (.slice a5 (keepI hv t.ask).length c5) 3 1 (keepI hv t.ask).length (iv (keepI hv t.ask)), tkI p12 X none 0, tkI p10 X none 0, tkI p9 (idleT t (decide (andI IntKind.i64 n0 1 = 1))) a4 c4, osl (.slice a4 t.ask.length c4) 3 1 t.ask.length (iv s.2), tkI bp8 (answerT t hv) a3 c3, odl (.slice a3 (keepI hv t.ask).length c3) 3 1 (keepI hv t.ask).length (iv l), osl (.slice a2 hv.length c2) 3 1 hv.length (iv hv), tkI p7 t a1 c1, osl (.slice a1 t.ask.length c1) 3 1 t.ask.length (iv t.ask), .own p5 (.cells #[.int .i64 n0, .int .i64 n1, .int .i64 n2] 87 (0, 0)), tkI p3 t a c, rdA a (iv t.ask), rdA ah (iv hv)]) (fun s => t.ask.length - s.1)
    · exact fun w' hw' => ⟨(0, t.ask), ⟨by simp, rfl⟩, ⟨rfl, trivial⟩, hw'⟩
    rintro ⟨j, r⟩ g2 ⟨hjl, hr2⟩
    simp only at hjl hr2 ⊢
    by_cases hlt : j < t.ask.length
    · obtain ⟨bb, ob, rfl⟩ := hf4 (fun e => by have := congrArg List.length e; simp at this; simp [this] at hlt)
      repeat'(first|(apply kp;iterate 2 exact rfl)|apply jJ|(apply jE;exact rfl)|(apply jp;exact rfl)|(apply jc;kernel_rfl)|((first|apply kf|apply kn|apply ke|apply kx|apply kc|apply kb);iterate 2 exact rfl)|((first|apply kz|apply ky);(·exact rfl);(·repeat(first|exact iO|exact iR rfl|apply iT));iterate 2 exact rfl)|(apply kg;iterate 2 exact rfl)|(apply kG;iterate 3 exact rfl)|(apply kB;(iterate 2 exact rfl);intro _)|(apply kA;exact rfl;intro _)|(apply Go.Hb.kK;(iterate 4 exact rfl);intro _)|(apply kU;(iterate 2 exact rfl);(·repeat(first|exact sH _ _ _|apply sT));(first|exact nfL_eq rfl|exact rfl);exact rfl)|((first|apply kh|apply kl);(iterate 2 exact rfl);(first|decide|omega);exact rfl)|(apply idxX;(iterate 2 exact rfl);(iterate 2(first|omega|(dsimp only;omega)));exact rfl)|((first|(apply kR;iterate 2 exact rfl)|(apply kQ;exact rfl));all_goals(intro hc;try simp only[hcs]at hc;try(exfalso;first|contradiction|omega))))
      refine LR.store_obj (v := .int .i64 (-1)) (z := osl (.slice (some ⟨bb, ob, none⟩) t.ask.length c4) 3 1 t.ask.length (iv r)) (z' := osl (.slice (some ⟨bb, ob, none⟩) t.ask.length c4) 3 1 t.ask.length (iv (r.set j (-1)))) rfl rfl (by (repeat (first | exact sH _ _ _ | apply sT))) rfl (st_osl1 (by simp) (by omega)) (osl.dep _ _ _ _ _) ?_
      repeat'(first|(apply kp;iterate 2 exact rfl)|apply jJ|(apply jE;exact rfl)|(apply jp;exact rfl)|(apply jc;kernel_rfl)|((first|apply kf|apply kn|apply ke|apply kx|apply kc|apply kb);iterate 2 exact rfl)|((first|apply kz|apply ky);(·exact rfl);(·repeat(first|exact iO|exact iR rfl|apply iT));iterate 2 exact rfl)|(apply kg;iterate 2 exact rfl)|(apply kG;iterate 3 exact rfl)|(apply kB;(iterate 2 exact rfl);intro _)|(apply kA;exact rfl;intro _)|(apply Go.Hb.kK;(iterate 4 exact rfl);intro _)|(apply kU;(iterate 2 exact rfl);(·repeat(first|exact sH _ _ _|apply sT));(first|exact nfL_eq rfl|exact rfl);exact rfl)|((first|apply kh|apply kl);(iterate 2 exact rfl);(first|decide|omega);exact rfl)|(apply addX;(iterate 2 exact rfl);(iterate 2(first|omega|(dsimp only;omega)));exact rfl)|((first|(apply kR;iterate 2 exact rfl)|(apply kQ;exact rfl));all_goals(intro hc;try simp only[hcs]at hc;try(exfalso;first|contradiction|omega))))
      refine At.again (j + 1, r.set j (-1)) ⟨by simp only; omega, by simp only [List.length_set]; exact hr2⟩ ?_ ⟨rfl, trivial⟩ (fun w' hw' => hw') (by simp only; omega)
      (repeat (first | exact Out.refl _ _ | exact Out.mix | (apply Out.upd; (· exact rfl)) | (apply Out.updL; (· exact rfl)) | (apply Out.mixs; (· exact rfl))))
    · have hje : j = t.ask.length := by omega
      repeat'(first|(apply kp;iterate 2 exact rfl)|apply jJ|(apply jE;exact rfl)|(apply jp;exact rfl)|(apply jc;kernel_rfl)|((first|apply kf|apply kn|apply ke|apply kx|apply kc|apply kb);iterate 2 exact rfl)|((first|apply kz|apply ky);(·exact rfl);(·repeat(first|exact iO|exact iR rfl|apply iT));iterate 2 exact rfl)|(apply kg;iterate 2 exact rfl)|(apply kG;iterate 3 exact rfl)|(apply kB;(iterate 2 exact rfl);intro _)|(apply kA;exact rfl;intro _)|(apply Go.Hb.kK;(iterate 4 exact rfl);intro _)|(apply kU;(iterate 2 exact rfl);(·repeat(first|exact sH _ _ _|apply sT));(first|exact nfL_eq rfl|exact rfl);exact rfl)|((first|apply kh|apply kl);(iterate 2 exact rfl);(first|decide|omega);exact rfl)|(apply kq; (· exact rfl); (· intro w1 h1; first | exact CallsTo.q (t20 w1) h1 | exact CallsTo.q (t23 n0 n1 n2 w1) h1 | exact CallsTo.q (t72 n0 n1 n2 w1) h1 | exact CallsTo.q (h22 w1) h1 | exact CallsTo.q (h69 w1) h1 | (have hq := CallsTo.q (t18 X X none none 0 0 w1 (by rw [hX]; exact Rd.nil _ _) (by rw [hX]; exact Rd.nil _ _) (by rw [hX]; simp)) h1; rw [decide_eq_true rfl] at hq; exact hq) | (have hq := CallsTo.q (t18 (answerT t hv) (answerT t hv) a3 a5 c3 c5 w1 (h1.rd_of_odl (by (repeat (first | exact mH _ _ | apply mT)))) (h1.rd_of_own (by (repeat (first | exact mH _ _ | apply mT)))) (by show (keepI hv t.ask).length ≤ _; omega)) h1; rw [decide_eq_true rfl] at hq; exact hq) | (have hq := CallsTo.q (t18 (idleT t (decide (andI IntKind.i64 n0 1 = 1))) (idleT t (decide (andI IntKind.i64 n0 1 = 1))) a4 a6 c4 c6 w1 (h1.rd_of_own (by (repeat (first | exact mH _ _ | apply mT)))) (h1.rd_of_own (by (repeat (first | exact mH _ _ | apply mT)))) hm) h1; rw [decide_eq_true rfl] at hq; exact hq) | (have hq := CallsTo.q (t18 t t a1 a c1 c w1 (h1.rd_of_own (by (repeat (first | exact mH _ _ | apply mT)))) (h1.rd_of (by (repeat (first | exact mH _ _ | apply mT)))) hm) h1; rw [decide_eq_true rfl] at hq; exact hq)))|((first|(apply kR;iterate 2 exact rfl)|(apply kQ;exact rfl));all_goals(intro hc;try simp only[hcs]at hc;try(exfalso;first|contradiction|omega))))
      (apply ret1; (· exact rfl); intro w' hS)
      exact ⟨rfl, hS.toKeep⟩
end Go.Proofs.Ythmmmbphknoagaa

namespace Go.Proofs.Ythmmmbphknoagaa
open Go.Hb
attribute [local irreducible] LR CW At Ev thn blk finK noG again CallsTo DW QL dnext
set_option linter.unusedSimpArgs false
set_option linter.unusedVariables false
set_option maxRecDepth 100000

instance : Build Try.prog 87 [.int .i64 0, .int .i64 0, .int .i64 0] [(0, 1), (1, 1), (2, 1)] := ⟨fun w parts cells h => by
  have h2 := fill_mono (q := fun i => some (i * 1, 1)) (fun i x hx => arrPlaces_get (n := 3) hx) _ _ _ h
  simp only [Instr.build, Sem.run_bind, Try.zeroValue87, run_underlying Try.underlying87, Result.andThen_ok, Try.sizeOf3, Value.cells]
  rw [h2]
  rfl⟩
theorem new_bad : newTk 0 0 1 = (noTk, 2) := by decide +kernel
structure TkA where
  t : Tk
  a : Option Addr
  c : Nat
def TkA.row (x : TkA) : List Value := x.t.cells x.a x.c
structure VsA where
  v : Vst
  a : Option Addr
  c : Nat
def VsA.row (x : VsA) : List Value := x.v.cells x.a x.c
def rowsT (bu : Nat) : List TkA := [⟨usualT, none, 0⟩, ⟨{ usualT with idle := 4, ask := [5, 7, 9] }, some ⟨bu, 0, none⟩, 3⟩, ⟨{ usualT with hop := 9007199254740991 }, none, 0⟩, ⟨{ usualT with idle := 9007199254740991 }, none, 0⟩, ⟨{ usualT with aru := 10 }, none, 0⟩, ⟨noTk, none, 0⟩]
def uTk : Tk := ⟨4, 1, 1, 9, 5, 3, 20, 4, [5, 7, 9]⟩
def gapsL : List Int := [-1, 0, 10, 9, 9, 1, 2, 3, 4, 5, 6, 7, 8]
def rowsV (b1 b2 b3 : Nat) : List VsA := [⟨⟨2, 9, []⟩, none, 0⟩, ⟨⟨2, 4, [5, 7]⟩, some ⟨b1, 0, none⟩, 2⟩, ⟨⟨3, 9, []⟩, none, 0⟩, ⟨⟨3, 7, [8]⟩, some ⟨b2, 0, none⟩, 1⟩, ⟨⟨9, 1, []⟩, none, 0⟩, ⟨⟨1, -1, []⟩, none, 0⟩, ⟨⟨0, 0, []⟩, none, 0⟩, ⟨⟨8, 4611686018427387904, gapsL⟩, some ⟨b3, 0, none⟩, 13⟩]
theorem rowsT_ok {bu : Nat} {x : TkA} (h : x ∈ rowsT bu) : (x.a = none → x.c = 0) ∧ x.t.ask.length ≤ 3 ∧ 0 ≤ x.t.idle := by
  unfold rowsT at h
  simp only [List.mem_cons, List.not_mem_nil, or_false] at h
  rcases h with rfl | rfl | rfl | rfl | rfl | rfl <;> (refine ⟨fun e => ?_, by simp [usualT, noTk], by simp [usualT, noTk]⟩; first | rfl | cases e)
theorem rowsT_rd {bu : Nat} {x : TkA} (h : x ∈ rowsT bu) {w : World} (hr : Rd w (some ⟨bu, 0, none⟩) (iv [5, 7, 9])) : Rd w x.a (iv x.t.ask) := by
  unfold rowsT at h
  simp only [List.mem_cons, List.not_mem_nil, or_false] at h
  rcases h with rfl | rfl | rfl | rfl | rfl | rfl <;> first | exact Rd.nil _ _ | exact hr
theorem rowsV_ok {b1 b2 b3 : Nat} {x : VsA} (h : x ∈ rowsV b1 b2 b3) : (x.a = none → x.c = 0) ∧ x.v.gaps.length ≤ 13 := by
  unfold rowsV at h
  simp only [List.mem_cons, List.not_mem_nil, or_false] at h
  rcases h with rfl | rfl | rfl | rfl | rfl | rfl | rfl | rfl <;> (refine ⟨fun e => ?_, by simp [gapsL]⟩; first | rfl | cases e)
theorem rowsV_rd {b1 b2 b3 : Nat} {x : VsA} (h : x ∈ rowsV b1 b2 b3) {w : World} (h1 : Rd w (some ⟨b1, 0, none⟩) (iv [5, 7])) (h2 : Rd w (some ⟨b2, 0, none⟩) (iv [8])) (h3 : Rd w (some ⟨b3, 0, none⟩) (iv gapsL)) : Rd w x.a (iv x.v.gaps) := by
  unfold rowsV at h
  simp only [List.mem_cons, List.not_mem_nil, or_false] at h
  rcases h with rfl | rfl | rfl | rfl | rfl | rfl | rfl | rfl <;> first | exact Rd.nil _ _ | exact h1 | exact h2 | exact h3
abbrev namesC (w : World) (bA b3 b2 b1 bL bu p4 : Nat) : World → Prop := St w NoF [.own bA (.cells ((rowsV b1 b2 b3).flatMap VsA.row).toArray 28 (0, 0)), .own b3 (.cells (iv gapsL).toArray 3 (0, 0)), .own b2 (.cells (iv [8]).toArray 3 (0, 0)), .own b1 (.cells (iv [5, 7]).toArray 3 (0, 0)), .own bL (.cells ((rowsT bu).flatMap TkA.row).toArray 26 (0, 0)), .own bu (.cells (iv [5, 7, 9]).toArray 3 (0, 0)), tkI p4 { usualT with idle := 4, ask := [5, 7, 9] } (some ⟨bu, 0, none⟩) 3]
set_option maxHeartbeats 4000000 in
theorem t11 (w : World) : CallsTo Try.prog 11 [] w fun u w' => u = .bool true ∧ Grew w w' := by
  refine go_in (n := 145) (St.refl _ NoF) Try.func11 rfl rfl ?_
  repeat'(first|(apply kp;iterate 2 exact rfl)|apply jJ|(apply jE;exact rfl)|(apply jp;exact rfl)|(apply jc;kernel_rfl)|((first|apply kf|apply kn|apply ke|apply kx|apply kc|apply kb);iterate 2 exact rfl)|((first|apply kz|apply ky);(·exact rfl);(·repeat(first|exact iO|exact iR rfl|apply iT));iterate 2 exact rfl)|(apply kg;iterate 2 exact rfl)|(apply kG;iterate 3 exact rfl)|(apply kB;(iterate 2 exact rfl);intro _)|(apply kA;exact rfl;intro _)|(apply Go.Hb.kK;(iterate 4 exact rfl);intro _)|(apply kU;(iterate 2 exact rfl);(·repeat(first|exact sH _ _ _|apply sT));(first|exact nfL_eq rfl|exact rfl);exact rfl)|((first|apply kh|apply kl);(iterate 2 exact rfl);(first|decide|omega);exact rfl)|(apply kq; (· exact rfl); (· intro w1 h1; first | exact CallsTo.q (t20 w1) h1 | exact CallsTo.q (t48 w1) h1 | (have hq := CallsTo.q (t22 0 0 1 w1) h1; rw [new_bad] at hq; exact hq)))|((first|(apply kR;iterate 2 exact rfl)|(apply kQ;exact rfl));all_goals(intro hc;try simp only[hcs]at hc;try(exfalso;first|contradiction|omega))))
  rename_i p1 p3 p4 bu p5 p6 p7 bL b1 b2 b3 bA
  refine CW.sub (D := namesC w bA b3 b2 b1 bL bu p4) ?_ (fun w' h => St.sub (show St w NoF [.own bA (.cells ((rowsV b1 b2 b3).flatMap VsA.row).toArray 28 (0, 0)), .own b3 (.cells (iv gapsL).toArray 3 (0, 0)), .own b2 (.cells (iv [8]).toArray 3 (0, 0)), .own b1 (.cells (iv [5, 7]).toArray 3 (0, 0)), .own bL (.cells ((rowsT bu).flatMap TkA.row).toArray 26 (0, 0)), _, _, _, .own bu (.cells (iv [5, 7, 9]).toArray 3 (0, 0)), tkI p4 { usualT with idle := 4, ask := [5, 7, 9] } (some ⟨bu, 0, none⟩) 3, _, _] w' from h) (by (repeat (first | exact List.Sublist.refl _ | apply List.Sublist.cons_cons | apply List.Sublist.cons))))
  apply CW.loop [0, 10, 11, 47, 48, 49, 50, 51, 52, 53, 54, 55, 56, 57, 58, 59, 60, 61, 62, 63, 64, 65, 66, 67, 68, 69, 70, 71, 72, 73, 74, 75, 76, 77, 78, 79, 80, 81, 82, 83, 84, 85, 86, 87, 88, 89, 90, 91, 92, 93, 94, 95, 96, 97, 98, 99, 100, 101, 102, 103, 104, 105, 106, 107, 108, 109, 110, 111, 112, 113, 114, 115, 116, 117] (fun i : Nat => i ≤ 6) (fun i => [(10, .int .i64 (i : Int))]) (fun i => namesC w bA b3 b2 b1 bL bu p4) (fun i => 6 - i)
  · exact fun w' hw' => ⟨0, by omega, ⟨rfl, trivial⟩, hw'⟩
  intro i g1 hi
  by_cases hlt : i < 6
  · have hxm : (rowsT bu)[i]'hlt ∈ rowsT bu := List.getElem_mem _
    have hxr : ∀ w1, namesC w bA b3 b2 b1 bL bu p4 w1 → ∀ j v, ((rowsT bu)[i]'hlt).row[j]? = some v → w1.cell? ((⟨bL, 0 + (i : Int).toNat * 9, none⟩ : Addr).add j) = some v := fun w1 h1 => rd_row (n := 9) (fun x => rfl) (St.rd_of_blk h1 (by (repeat (first | exact mH _ _ | apply mT)))) hlt (by simp)
    generalize (rowsT bu)[i]'hlt = x at hxm hxr
    obtain ⟨hxz, hxl, hxi⟩ := rowsT_ok hxm
    repeat'(first|(apply kp;iterate 2 exact rfl)|apply jJ|(apply jE;exact rfl)|(apply jp;exact rfl)|(apply jc;kernel_rfl)|((first|apply kf|apply kn|apply ke|apply kx|apply kc|apply kb);iterate 2 exact rfl)|((first|apply kz|apply ky);(·exact rfl);(·repeat(first|exact iO|exact iR rfl|apply iT));iterate 2 exact rfl)|(apply kg;iterate 2 exact rfl)|(apply kG;iterate 3 exact rfl)|(apply kB;(iterate 2 exact rfl);intro _)|(apply kA;exact rfl;intro _)|(apply Go.Hb.kK;(iterate 4 exact rfl);intro _)|(apply kU;(iterate 2 exact rfl);(·repeat(first|exact sH _ _ _|apply sT));(first|exact nfL_eq rfl|exact rfl);exact rfl)|((first|apply kh|apply kl);(iterate 2 exact rfl);(first|decide|omega);exact rfl)|((first|(apply kR;iterate 2 exact rfl)|(apply kQ;exact rfl));all_goals(intro hc;try simp only[hcs]at hc;try(exfalso;first|contradiction|omega))))
    apply CW.loop [0, 11, 53, 54, 55, 56, 57, 58, 59, 60, 61, 62, 63, 64, 65, 66, 67, 68] (fun j : Nat => j ≤ 8) (fun j => [(11, .int .i64 (j : Int))]) (fun j => namesC w bA b3 b2 b1 bL bu p4) (fun j => 8 - j)
    · exact fun w' hw' => ⟨0, by omega, ⟨rfl, trivial⟩, hw'⟩
    intro j g2 hj
    by_cases hlj : j < 8
    · have hym : (rowsV b1 b2 b3)[j]'hlj ∈ rowsV b1 b2 b3 := List.getElem_mem _
      have hyr : ∀ w1, namesC w bA b3 b2 b1 bL bu p4 w1 → ∀ k v, ((rowsV b1 b2 b3)[j]'hlj).row[k]? = some v → w1.cell? ((⟨bA, 0 + (j : Int).toNat * 3, none⟩ : Addr).add k) = some v := fun w1 h1 => rd_row (n := 3) (fun x => rfl) (St.rd_of_blk h1 (by (repeat (first | exact mH _ _ | apply mT)))) hlj (by simp)
      generalize (rowsV b1 b2 b3)[j]'hlj = y at hym hyr
      obtain ⟨hyz, hyl⟩ := rowsV_ok hym
      repeat'(first|(apply CW.reg_heldC)|(apply kp;iterate 2 exact rfl)|apply jJ|(apply jE;exact rfl)|(apply jp;exact rfl)|(apply jc;kernel_rfl)|((first|apply kf|apply kn|apply ke|apply kx|apply kc|apply kb);iterate 2 exact rfl)|((first|apply kz|apply ky);(·exact rfl);(·repeat(first|exact iO|exact iR rfl|apply iT));iterate 2 exact rfl)|(apply kg;iterate 2 exact rfl)|(apply kG;iterate 3 exact rfl)|(apply kB;(iterate 2 exact rfl);intro _)|(apply kA;exact rfl;intro _)|(apply Go.Hb.kK;(iterate 4 exact rfl);intro _)|(apply kU;(iterate 2 exact rfl);(·repeat(first|exact sH _ _ _|apply sT));(first|exact nfL_eq rfl|exact rfl);exact rfl)|((first|apply kh|apply kl);(iterate 2 exact rfl);(first|decide|omega);exact rfl)|((first|(apply kR;iterate 2 exact rfl)|(apply kQ;exact rfl));all_goals(intro hc;try simp only[hcs]at hc;try(exfalso;first|contradiction|omega))))
      all_goals (
        apply DW.quiet [0, 1, 2, 3, 4, 5, 6, 7]
        · decide +kernel
        · first | exact fun _ h => h | exact fun _ h => St.sub h (by repeat (first | exact List.Sublist.refl _ | apply List.Sublist.cons_cons | apply List.Sublist.cons))
        repeat'(first|(apply yp;iterate 3 exact rfl)|(apply QL.ev;(·exact rfl);(·first|((first|apply Ez|apply Ey);(·exact rfl);(·repeat(first|exact iO|exact iR rfl|apply iT));exact rfl)|((first|apply Ev.fieldAddr|apply Ev.len|apply EqOf.eq|apply EqOf.ne|apply Ev.conv|apply Ev.buildN);exact rfl)|((first|apply Ev.shr|apply Ev.shl);(iterate 2 exact rfl);first|decide|omega));·exact rfl)|(apply QL.ev; (· exact rfl); (· first | (apply Ev.indexAddr; (· exact rfl); (· exact rfl); (· omega); (· simp only [Int.ofNat_lt]; omega)) | (apply Ev.load_agg_at (cs := x.row); (· exact rfl); (· exact rfl); (· intro w' hw'; exact hxr w' hw')) | (apply Ev.load_agg_at (cs := y.row); (· exact rfl); (· exact rfl); (· intro w' hw'; exact hyr w' hw'))); (· exact rfl))|(apply yq;iterate 5 exact rfl)|(apply QL.evg;(iterate 3 exact rfl);(·first|((first|apply Ez|apply Ey);(·exact rfl);(·repeat(first|exact iO|exact iR rfl|apply iT));exact rfl)|((first|apply Ev.fieldAddr|apply Ev.len|apply EqOf.eq|apply EqOf.ne|apply Ev.conv|apply Ev.buildN);exact rfl)|((first|apply Ev.shr|apply Ev.shl);(iterate 2 exact rfl);first|decide|omega));·exact rfl)|(apply yn;iterate 4 exact rfl)|((apply QL.split;iterate 3 exact rfl);all_goals(intro hc;try simp only[hcs]at hc;try(exfalso;first|contradiction|omega)))|apply QL.nil)
        all_goals (show DW _ _ _ _ _ _ _ _))
      all_goals (
        apply DW.loud 8
        · exact rfl
        · decide +kernel
        repeat'(first|(apply kg;iterate 2 exact rfl)|(apply kG;iterate 3 exact rfl)|apply kM|(apply kp;iterate 2 exact rfl)|((first|apply kz|apply ky);(·exact rfl);(·repeat(first|exact iO|exact iR rfl|apply iT));iterate 2 exact rfl)|(apply Go.Hb.kK;(iterate 4 exact rfl);intro _)|(apply kU;(iterate 2 exact rfl);(·repeat(first|exact sH _ _ _|apply sT));(first|exact nfL_eq rfl|exact rfl);exact rfl)|(apply kB;(iterate 2 exact rfl);intro _)|(apply kA;exact rfl;intro _)|(apply kq; (· exact rfl); (· intro w1 h1; exact CallsTo.q (t3 x.t x.a x.c y.v y.a y.c w1 (rowsT_rd hxm (h1.rd_of_blk (by (repeat (first | exact mH _ _ | apply mT))))) hxz (by omega) (rowsV_rd hym (h1.rd_of_blk (by (repeat (first | exact mH _ _ | apply mT)))) (h1.rd_of_blk (by (repeat (first | exact mH _ _ | apply mT)))) (h1.rd_of_blk (by (repeat (first | exact mH _ _ | apply mT))))) hyz (by omega)) h1)))
        all_goals (refine At.stage_same (fun _ h => St.sub h (by repeat (first | exact List.Sublist.refl _ | apply List.Sublist.cons_cons | apply List.Sublist.cons))) ?_))
      all_goals (
        apply DW.quiet [9]
        · decide +kernel
        · first | exact fun _ h => h | exact fun _ h => St.sub h (by repeat (first | exact List.Sublist.refl _ | apply List.Sublist.cons_cons | apply List.Sublist.cons))
        repeat'(first|(apply yp;iterate 3 exact rfl)|(apply QL.ev;(·exact rfl);(·first|((first|apply Ez|apply Ey);(·exact rfl);(·repeat(first|exact iO|exact iR rfl|apply iT));exact rfl)|((first|apply Ev.fieldAddr|apply Ev.len|apply EqOf.eq|apply EqOf.ne|apply Ev.conv|apply Ev.buildN);exact rfl)|((first|apply Ev.shr|apply Ev.shl);(iterate 2 exact rfl);first|decide|omega));·exact rfl)|(apply QL.ev; (· exact rfl); (· first | (apply Ev.indexAddr; (· exact rfl); (· exact rfl); (· omega); (· simp only [Int.ofNat_lt]; omega)) | (apply Ev.load_agg_at (cs := x.row); (· exact rfl); (· exact rfl); (· intro w' hw'; exact hxr w' hw')) | (apply Ev.load_agg_at (cs := y.row); (· exact rfl); (· exact rfl); (· intro w' hw'; exact hyr w' hw'))); (· exact rfl))|(apply yq;iterate 5 exact rfl)|(apply QL.evg;(iterate 3 exact rfl);(·first|((first|apply Ez|apply Ey);(·exact rfl);(·repeat(first|exact iO|exact iR rfl|apply iT));exact rfl)|((first|apply Ev.fieldAddr|apply Ev.len|apply EqOf.eq|apply EqOf.ne|apply Ev.conv|apply Ev.buildN);exact rfl)|((first|apply Ev.shr|apply Ev.shl);(iterate 2 exact rfl);first|decide|omega));·exact rfl)|(apply yn;iterate 4 exact rfl)|((apply QL.split;iterate 3 exact rfl);all_goals(intro hc;try simp only[hcs]at hc;try(exfalso;first|contradiction|omega)))|apply QL.nil)
        all_goals (show DW _ _ _ _ _ _ _ _))
      all_goals (first | (apply DW.done_thn; (· decide +kernel)) | (apply DW.done; (· decide +kernel)))
      repeat'(first|(apply kp;iterate 2 exact rfl)|apply jJ|(apply jE;exact rfl)|(apply jp;exact rfl)|(apply jc;kernel_rfl)|((first|apply kf|apply kn|apply ke|apply kx|apply kc|apply kb);iterate 2 exact rfl)|((first|apply kz|apply ky);(·exact rfl);(·repeat(first|exact iO|exact iR rfl|apply iT));iterate 2 exact rfl)|(apply kg;iterate 2 exact rfl)|(apply kG;iterate 3 exact rfl)|(apply kB;(iterate 2 exact rfl);intro _)|(apply kA;exact rfl;intro _)|(apply Go.Hb.kK;(iterate 4 exact rfl);intro _)|(apply kU;(iterate 2 exact rfl);(·repeat(first|exact sH _ _ _|apply sT));(first|exact nfL_eq rfl|exact rfl);exact rfl)|((first|apply kh|apply kl);(iterate 2 exact rfl);(first|decide|omega);exact rfl)|(apply addX;(iterate 2 exact rfl);(iterate 2(first|omega|(dsimp only;omega)));exact rfl)|((first|(apply kR;iterate 2 exact rfl)|(apply kQ;exact rfl));all_goals(intro hc;try simp only[hcs]at hc;try(exfalso;first|contradiction|omega))))
      refine At.again (j + 1) (by omega) ?_ ⟨rfl, trivial⟩ (fun w' hw' => hw') (by omega)
      (repeat (first | exact Out.refl _ _ | exact Out.mix | (apply Out.upd; (· exact rfl)) | (apply Out.updL; (· exact rfl)) | (apply Out.mixs; (· exact rfl))))
    · have hje : j = 8 := by omega
      subst hje
      have hx8 : ∀ w1, namesC w bA b3 b2 b1 bL bu p4 w1 → w1.cell? ⟨bL, 0 + (i : Int).toNat * 9 + 8, none⟩ = some (.slice x.a x.t.ask.length x.c) := fun w1 h1 => by
        have := hxr w1 h1 8 _ rfl
        rwa [addr_add] at this
      repeat'(first|(apply CW.reg_heldC)|(apply kp;iterate 2 exact rfl)|apply jJ|(apply jE;exact rfl)|(apply jp;exact rfl)|(apply jc;kernel_rfl)|((first|apply kf|apply kn|apply ke|apply kx|apply kc|apply kb);iterate 2 exact rfl)|((first|apply kz|apply ky);(·exact rfl);(·repeat(first|exact iO|exact iR rfl|apply iT));iterate 2 exact rfl)|(apply kg;iterate 2 exact rfl)|(apply kG;iterate 3 exact rfl)|(apply kB;(iterate 2 exact rfl);intro _)|(apply kA;exact rfl;intro _)|(apply Go.Hb.kK;(iterate 4 exact rfl);intro _)|(apply kU;(iterate 2 exact rfl);(·repeat(first|exact sH _ _ _|apply sT));(first|exact nfL_eq rfl|exact rfl);exact rfl)|((first|apply kh|apply kl);(iterate 2 exact rfl);(first|decide|omega);exact rfl)|((first|(apply kR;iterate 2 exact rfl)|(apply kQ;exact rfl));all_goals(intro hc;try simp only[hcs]at hc;try(exfalso;first|contradiction|omega))))
      all_goals (
        apply DW.quiet [0, 1, 2, 3, 5]
        · decide +kernel
        · first | exact fun _ h => h | exact fun _ h => St.sub h (by repeat (first | exact List.Sublist.refl _ | apply List.Sublist.cons_cons | apply List.Sublist.cons))
        repeat'(first|(apply yp;iterate 3 exact rfl)|(apply QL.ev;(·exact rfl);(·first|((first|apply Ez|apply Ey);(·exact rfl);(·repeat(first|exact iO|exact iR rfl|apply iT));exact rfl)|((first|apply Ev.fieldAddr|apply Ev.len|apply EqOf.eq|apply EqOf.ne|apply Ev.conv|apply Ev.buildN);exact rfl)|((first|apply Ev.shr|apply Ev.shl);(iterate 2 exact rfl);first|decide|omega));·exact rfl)|(apply QL.ev; (· exact rfl); (· first | (apply Ev.indexAddr; (· exact rfl); (· exact rfl); (· omega); (· simp only [Int.ofNat_lt]; omega)) | (apply Ev.load_agg_at (cs := x.row); (· exact rfl); (· exact rfl); (· intro w' hw'; exact hxr w' hw')) | (apply Ev.load; (· exact rfl); (· intro w' hw'; exact hx8 w' hw'))); (· exact rfl))|(apply QL.evg; (iterate 3 exact rfl); (· first | (apply Ev.indexAddr; (· exact rfl); (· exact rfl); (· omega); (· simp only [Int.ofNat_lt]; omega)) | (apply Ev.load_agg_at (cs := x.row); (· exact rfl); (· exact rfl); (· intro w' hw'; exact hxr w' hw')) | (apply Ev.load; (· exact rfl); (· intro w' hw'; exact hx8 w' hw'))); (· exact rfl))|(apply yq;iterate 5 exact rfl)|(apply QL.evg;(iterate 3 exact rfl);(·first|((first|apply Ez|apply Ey);(·exact rfl);(·repeat(first|exact iO|exact iR rfl|apply iT));exact rfl)|((first|apply Ev.fieldAddr|apply Ev.len|apply EqOf.eq|apply EqOf.ne|apply Ev.conv|apply Ev.buildN);exact rfl)|((first|apply Ev.shr|apply Ev.shl);(iterate 2 exact rfl);first|decide|omega));·exact rfl)|(apply yn;iterate 4 exact rfl)|((apply QL.split;iterate 3 exact rfl);all_goals(intro hc;try simp only[hcs]at hc;try(exfalso;first|contradiction|omega)))|apply QL.nil)
        all_goals (show DW _ _ _ _ _ _ _ _))
      all_goals (
        apply DW.loud 4
        · exact rfl
        · decide +kernel
        repeat'(first|(apply Go.Hb.kK;(iterate 4 exact rfl);intro bs)|(apply kg;iterate 2 exact rfl)|(apply kG;iterate 3 exact rfl)|apply kM|(apply kp;iterate 2 exact rfl)|((first|apply kz|apply ky);(·exact rfl);(·repeat(first|exact iO|exact iR rfl|apply iT));iterate 2 exact rfl)|(apply Go.Hb.kK;(iterate 4 exact rfl);intro _)|(apply kU;(iterate 2 exact rfl);(·repeat(first|exact sH _ _ _|apply sT));(first|exact nfL_eq rfl|exact rfl);exact rfl)|(apply kB;(iterate 2 exact rfl);intro _)|(apply kA;exact rfl;intro _)|(apply kq; (· exact rfl); (· intro w1 h1; first | exact CallsTo.q (t49 x.t x.a x.c (some ⟨bs, 0, none⟩) 2 [7, 8] 1 20 (-1) w1 (rowsT_rd hxm (h1.rd_of_blk (by (repeat (first | exact mH _ _ | apply mT))))) hxz (by omega) (h1.rd_of_blk (by (repeat (first | exact mH _ _ | apply mT)))) (fun e => by cases e) (by simp) (by omega)) h1 | exact CallsTo.q (t49 x.t x.a x.c none 0 [] 6 5 4 w1 (rowsT_rd hxm (h1.rd_of_blk (by (repeat (first | exact mH _ _ | apply mT))))) hxz (by omega) (Rd.nil _ _) (fun _ => rfl) (by simp) (by omega)) h1 | exact CallsTo.q (t49 x.t x.a x.c x.a x.c x.t.ask (-9223372036854775808) 9223372036854775807 0 w1 (rowsT_rd hxm (h1.rd_of_blk (by (repeat (first | exact mH _ _ | apply mT))))) hxz (by omega) (rowsT_rd hxm (h1.rd_of_blk (by (repeat (first | exact mH _ _ | apply mT))))) hxz (by omega) (by omega)) h1 | exact CallsTo.q (t49 x.t x.a x.c none 0 [] 0 9007199254740992 1 w1 (rowsT_rd hxm (h1.rd_of_blk (by (repeat (first | exact mH _ _ | apply mT))))) hxz (by omega) (Rd.nil _ _) (fun _ => rfl) (by simp) (by omega)) h1 | exact CallsTo.q (t49 x.t x.a x.c none 0 [] 0 9007199254740991 1 w1 (rowsT_rd hxm (h1.rd_of_blk (by (repeat (first | exact mH _ _ | apply mT))))) hxz (by omega) (Rd.nil _ _) (fun _ => rfl) (by simp) (by omega)) h1)))
        all_goals (refine At.stage_same (fun _ h => St.sub h (by repeat (first | exact List.Sublist.refl _ | apply List.Sublist.cons_cons | apply List.Sublist.cons))) ?_))
      all_goals (
        apply DW.loud 6
        · exact rfl
        · decide +kernel
        repeat'(first|(apply Go.Hb.kK;(iterate 4 exact rfl);intro bs)|(apply kg;iterate 2 exact rfl)|(apply kG;iterate 3 exact rfl)|apply kM|(apply kp;iterate 2 exact rfl)|((first|apply kz|apply ky);(·exact rfl);(·repeat(first|exact iO|exact iR rfl|apply iT));iterate 2 exact rfl)|(apply Go.Hb.kK;(iterate 4 exact rfl);intro _)|(apply kU;(iterate 2 exact rfl);(·repeat(first|exact sH _ _ _|apply sT));(first|exact nfL_eq rfl|exact rfl);exact rfl)|(apply kB;(iterate 2 exact rfl);intro _)|(apply kA;exact rfl;intro _)|(apply kq; (· exact rfl); (· intro w1 h1; first | exact CallsTo.q (t49 x.t x.a x.c (some ⟨bs, 0, none⟩) 2 [7, 8] 1 20 (-1) w1 (rowsT_rd hxm (h1.rd_of_blk (by (repeat (first | exact mH _ _ | apply mT))))) hxz (by omega) (h1.rd_of_blk (by (repeat (first | exact mH _ _ | apply mT)))) (fun e => by cases e) (by simp) (by omega)) h1 | exact CallsTo.q (t49 x.t x.a x.c none 0 [] 6 5 4 w1 (rowsT_rd hxm (h1.rd_of_blk (by (repeat (first | exact mH _ _ | apply mT))))) hxz (by omega) (Rd.nil _ _) (fun _ => rfl) (by simp) (by omega)) h1 | exact CallsTo.q (t49 x.t x.a x.c x.a x.c x.t.ask (-9223372036854775808) 9223372036854775807 0 w1 (rowsT_rd hxm (h1.rd_of_blk (by (repeat (first | exact mH _ _ | apply mT))))) hxz (by omega) (rowsT_rd hxm (h1.rd_of_blk (by (repeat (first | exact mH _ _ | apply mT))))) hxz (by omega) (by omega)) h1 | exact CallsTo.q (t49 x.t x.a x.c none 0 [] 0 9007199254740992 1 w1 (rowsT_rd hxm (h1.rd_of_blk (by (repeat (first | exact mH _ _ | apply mT))))) hxz (by omega) (Rd.nil _ _) (fun _ => rfl) (by simp) (by omega)) h1 | exact CallsTo.q (t49 x.t x.a x.c none 0 [] 0 9007199254740991 1 w1 (rowsT_rd hxm (h1.rd_of_blk (by (repeat (first | exact mH _ _ | apply mT))))) hxz (by omega) (Rd.nil _ _) (fun _ => rfl) (by simp) (by omega)) h1)))
        all_goals (refine At.stage_same (fun _ h => St.sub h (by repeat (first | exact List.Sublist.refl _ | apply List.Sublist.cons_cons | apply List.Sublist.cons))) ?_))
      all_goals (
        apply DW.quiet [7, 8, 9, 10, 11, 12, 13]
        · decide +kernel
        · first | exact fun _ h => h | exact fun _ h => St.sub h (by repeat (first | exact List.Sublist.refl _ | apply List.Sublist.cons_cons | apply List.Sublist.cons))
        repeat'(first|(apply yp;iterate 3 exact rfl)|(apply QL.ev;(·exact rfl);(·first|((first|apply Ez|apply Ey);(·exact rfl);(·repeat(first|exact iO|exact iR rfl|apply iT));exact rfl)|((first|apply Ev.fieldAddr|apply Ev.len|apply EqOf.eq|apply EqOf.ne|apply Ev.conv|apply Ev.buildN);exact rfl)|((first|apply Ev.shr|apply Ev.shl);(iterate 2 exact rfl);first|decide|omega));·exact rfl)|(apply QL.ev; (· exact rfl); (· first | (apply Ev.indexAddr; (· exact rfl); (· exact rfl); (· omega); (· simp only [Int.ofNat_lt]; omega)) | (apply Ev.load_agg_at (cs := x.row); (· exact rfl); (· exact rfl); (· intro w' hw'; exact hxr w' hw')) | (apply Ev.load; (· exact rfl); (· intro w' hw'; exact hx8 w' hw'))); (· exact rfl))|(apply QL.evg; (iterate 3 exact rfl); (· first | (apply Ev.indexAddr; (· exact rfl); (· exact rfl); (· omega); (· simp only [Int.ofNat_lt]; omega)) | (apply Ev.load_agg_at (cs := x.row); (· exact rfl); (· exact rfl); (· intro w' hw'; exact hxr w' hw')) | (apply Ev.load; (· exact rfl); (· intro w' hw'; exact hx8 w' hw'))); (· exact rfl))|(apply yq;iterate 5 exact rfl)|(apply QL.evg;(iterate 3 exact rfl);(·first|((first|apply Ez|apply Ey);(·exact rfl);(·repeat(first|exact iO|exact iR rfl|apply iT));exact rfl)|((first|apply Ev.fieldAddr|apply Ev.len|apply EqOf.eq|apply EqOf.ne|apply Ev.conv|apply Ev.buildN);exact rfl)|((first|apply Ev.shr|apply Ev.shl);(iterate 2 exact rfl);first|decide|omega));·exact rfl)|(apply yn;iterate 4 exact rfl)|((apply QL.split;iterate 3 exact rfl);all_goals(intro hc;try simp only[hcs]at hc;try(exfalso;first|contradiction|omega)))|apply QL.nil)
        all_goals (show DW _ _ _ _ _ _ _ _))
      all_goals (
        apply DW.loud 14
        · exact rfl
        · decide +kernel
        repeat'(first|(apply Go.Hb.kK;(iterate 4 exact rfl);intro bs)|(apply kg;iterate 2 exact rfl)|(apply kG;iterate 3 exact rfl)|apply kM|(apply kp;iterate 2 exact rfl)|((first|apply kz|apply ky);(·exact rfl);(·repeat(first|exact iO|exact iR rfl|apply iT));iterate 2 exact rfl)|(apply Go.Hb.kK;(iterate 4 exact rfl);intro _)|(apply kU;(iterate 2 exact rfl);(·repeat(first|exact sH _ _ _|apply sT));(first|exact nfL_eq rfl|exact rfl);exact rfl)|(apply kB;(iterate 2 exact rfl);intro _)|(apply kA;exact rfl;intro _)|(apply kq; (· exact rfl); (· intro w1 h1; first | exact CallsTo.q (t49 x.t x.a x.c (some ⟨bs, 0, none⟩) 2 [7, 8] 1 20 (-1) w1 (rowsT_rd hxm (h1.rd_of_blk (by (repeat (first | exact mH _ _ | apply mT))))) hxz (by omega) (h1.rd_of_blk (by (repeat (first | exact mH _ _ | apply mT)))) (fun e => by cases e) (by simp) (by omega)) h1 | exact CallsTo.q (t49 x.t x.a x.c none 0 [] 6 5 4 w1 (rowsT_rd hxm (h1.rd_of_blk (by (repeat (first | exact mH _ _ | apply mT))))) hxz (by omega) (Rd.nil _ _) (fun _ => rfl) (by simp) (by omega)) h1 | exact CallsTo.q (t49 x.t x.a x.c x.a x.c x.t.ask (-9223372036854775808) 9223372036854775807 0 w1 (rowsT_rd hxm (h1.rd_of_blk (by (repeat (first | exact mH _ _ | apply mT))))) hxz (by omega) (rowsT_rd hxm (h1.rd_of_blk (by (repeat (first | exact mH _ _ | apply mT))))) hxz (by omega) (by omega)) h1 | exact CallsTo.q (t49 x.t x.a x.c none 0 [] 0 9007199254740992 1 w1 (rowsT_rd hxm (h1.rd_of_blk (by (repeat (first | exact mH _ _ | apply mT))))) hxz (by omega) (Rd.nil _ _) (fun _ => rfl) (by simp) (by omega)) h1 | exact CallsTo.q (t49 x.t x.a x.c none 0 [] 0 9007199254740991 1 w1 (rowsT_rd hxm (h1.rd_of_blk (by (repeat (first | exact mH _ _ | apply mT))))) hxz (by omega) (Rd.nil _ _) (fun _ => rfl) (by simp) (by omega)) h1)))
        all_goals (refine At.stage_same (fun _ h => St.sub h (by repeat (first | exact List.Sublist.refl _ | apply List.Sublist.cons_cons | apply List.Sublist.cons))) ?_))
      all_goals (
        apply DW.quiet [15, 16, 17, 18, 19, 20, 21, 22, 23, 24, 25, 26, 27]
        · decide +kernel
        · first | exact fun _ h => h | exact fun _ h => St.sub h (by repeat (first | exact List.Sublist.refl _ | apply List.Sublist.cons_cons | apply List.Sublist.cons))
        repeat'(first|(apply yp;iterate 3 exact rfl)|(apply QL.ev;(·exact rfl);(·first|((first|apply Ez|apply Ey);(·exact rfl);(·repeat(first|exact iO|exact iR rfl|apply iT));exact rfl)|((first|apply Ev.fieldAddr|apply Ev.len|apply EqOf.eq|apply EqOf.ne|apply Ev.conv|apply Ev.buildN);exact rfl)|((first|apply Ev.shr|apply Ev.shl);(iterate 2 exact rfl);first|decide|omega));·exact rfl)|(apply QL.ev; (· exact rfl); (· first | (apply Ev.indexAddr; (· exact rfl); (· exact rfl); (· omega); (· simp only [Int.ofNat_lt]; omega)) | (apply Ev.load_agg_at (cs := x.row); (· exact rfl); (· exact rfl); (· intro w' hw'; exact hxr w' hw')) | (apply Ev.load; (· exact rfl); (· intro w' hw'; exact hx8 w' hw'))); (· exact rfl))|(apply QL.evg; (iterate 3 exact rfl); (· first | (apply Ev.indexAddr; (· exact rfl); (· exact rfl); (· omega); (· simp only [Int.ofNat_lt]; omega)) | (apply Ev.load_agg_at (cs := x.row); (· exact rfl); (· exact rfl); (· intro w' hw'; exact hxr w' hw')) | (apply Ev.load; (· exact rfl); (· intro w' hw'; exact hx8 w' hw'))); (· exact rfl))|(apply yq;iterate 5 exact rfl)|(apply QL.evg;(iterate 3 exact rfl);(·first|((first|apply Ez|apply Ey);(·exact rfl);(·repeat(first|exact iO|exact iR rfl|apply iT));exact rfl)|((first|apply Ev.fieldAddr|apply Ev.len|apply EqOf.eq|apply EqOf.ne|apply Ev.conv|apply Ev.buildN);exact rfl)|((first|apply Ev.shr|apply Ev.shl);(iterate 2 exact rfl);first|decide|omega));·exact rfl)|(apply yn;iterate 4 exact rfl)|((apply QL.split;iterate 3 exact rfl);all_goals(intro hc;try simp only[hcs]at hc;try(exfalso;first|contradiction|omega)))|apply QL.nil)
        all_goals (show DW _ _ _ _ _ _ _ _))
      all_goals (
        apply DW.loud 28
        · exact rfl
        · decide +kernel
        repeat'(first|(apply Go.Hb.kK;(iterate 4 exact rfl);intro bs)|(apply kg;iterate 2 exact rfl)|(apply kG;iterate 3 exact rfl)|apply kM|(apply kp;iterate 2 exact rfl)|((first|apply kz|apply ky);(·exact rfl);(·repeat(first|exact iO|exact iR rfl|apply iT));iterate 2 exact rfl)|(apply Go.Hb.kK;(iterate 4 exact rfl);intro _)|(apply kU;(iterate 2 exact rfl);(·repeat(first|exact sH _ _ _|apply sT));(first|exact nfL_eq rfl|exact rfl);exact rfl)|(apply kB;(iterate 2 exact rfl);intro _)|(apply kA;exact rfl;intro _)|(apply kq; (· exact rfl); (· intro w1 h1; first | exact CallsTo.q (t49 x.t x.a x.c (some ⟨bs, 0, none⟩) 2 [7, 8] 1 20 (-1) w1 (rowsT_rd hxm (h1.rd_of_blk (by (repeat (first | exact mH _ _ | apply mT))))) hxz (by omega) (h1.rd_of_blk (by (repeat (first | exact mH _ _ | apply mT)))) (fun e => by cases e) (by simp) (by omega)) h1 | exact CallsTo.q (t49 x.t x.a x.c none 0 [] 6 5 4 w1 (rowsT_rd hxm (h1.rd_of_blk (by (repeat (first | exact mH _ _ | apply mT))))) hxz (by omega) (Rd.nil _ _) (fun _ => rfl) (by simp) (by omega)) h1 | exact CallsTo.q (t49 x.t x.a x.c x.a x.c x.t.ask (-9223372036854775808) 9223372036854775807 0 w1 (rowsT_rd hxm (h1.rd_of_blk (by (repeat (first | exact mH _ _ | apply mT))))) hxz (by omega) (rowsT_rd hxm (h1.rd_of_blk (by (repeat (first | exact mH _ _ | apply mT))))) hxz (by omega) (by omega)) h1 | exact CallsTo.q (t49 x.t x.a x.c none 0 [] 0 9007199254740992 1 w1 (rowsT_rd hxm (h1.rd_of_blk (by (repeat (first | exact mH _ _ | apply mT))))) hxz (by omega) (Rd.nil _ _) (fun _ => rfl) (by simp) (by omega)) h1 | exact CallsTo.q (t49 x.t x.a x.c none 0 [] 0 9007199254740991 1 w1 (rowsT_rd hxm (h1.rd_of_blk (by (repeat (first | exact mH _ _ | apply mT))))) hxz (by omega) (Rd.nil _ _) (fun _ => rfl) (by simp) (by omega)) h1)))
        all_goals (refine At.stage_same (fun _ h => St.sub h (by repeat (first | exact List.Sublist.refl _ | apply List.Sublist.cons_cons | apply List.Sublist.cons))) ?_))
      all_goals (
        apply DW.quiet [29, 30, 31, 32, 33, 34, 35, 36]
        · decide +kernel
        · first | exact fun _ h => h | exact fun _ h => St.sub h (by repeat (first | exact List.Sublist.refl _ | apply List.Sublist.cons_cons | apply List.Sublist.cons))
        repeat'(first|(apply yp;iterate 3 exact rfl)|(apply QL.ev;(·exact rfl);(·first|((first|apply Ez|apply Ey);(·exact rfl);(·repeat(first|exact iO|exact iR rfl|apply iT));exact rfl)|((first|apply Ev.fieldAddr|apply Ev.len|apply EqOf.eq|apply EqOf.ne|apply Ev.conv|apply Ev.buildN);exact rfl)|((first|apply Ev.shr|apply Ev.shl);(iterate 2 exact rfl);first|decide|omega));·exact rfl)|(apply QL.ev; (· exact rfl); (· first | (apply Ev.indexAddr; (· exact rfl); (· exact rfl); (· omega); (· simp only [Int.ofNat_lt]; omega)) | (apply Ev.load_agg_at (cs := x.row); (· exact rfl); (· exact rfl); (· intro w' hw'; exact hxr w' hw')) | (apply Ev.load; (· exact rfl); (· intro w' hw'; exact hx8 w' hw'))); (· exact rfl))|(apply QL.evg; (iterate 3 exact rfl); (· first | (apply Ev.indexAddr; (· exact rfl); (· exact rfl); (· omega); (· simp only [Int.ofNat_lt]; omega)) | (apply Ev.load_agg_at (cs := x.row); (· exact rfl); (· exact rfl); (· intro w' hw'; exact hxr w' hw')) | (apply Ev.load; (· exact rfl); (· intro w' hw'; exact hx8 w' hw'))); (· exact rfl))|(apply yq;iterate 5 exact rfl)|(apply QL.evg;(iterate 3 exact rfl);(·first|((first|apply Ez|apply Ey);(·exact rfl);(·repeat(first|exact iO|exact iR rfl|apply iT));exact rfl)|((first|apply Ev.fieldAddr|apply Ev.len|apply EqOf.eq|apply EqOf.ne|apply Ev.conv|apply Ev.buildN);exact rfl)|((first|apply Ev.shr|apply Ev.shl);(iterate 2 exact rfl);first|decide|omega));·exact rfl)|(apply yn;iterate 4 exact rfl)|((apply QL.split;iterate 3 exact rfl);all_goals(intro hc;try simp only[hcs]at hc;try(exfalso;first|contradiction|omega)))|apply QL.nil)
        all_goals (show DW _ _ _ _ _ _ _ _))
      all_goals (
        apply DW.loud 37
        · exact rfl
        · decide +kernel
        repeat'(first|(apply Go.Hb.kK;(iterate 4 exact rfl);intro bs)|(apply kg;iterate 2 exact rfl)|(apply kG;iterate 3 exact rfl)|apply kM|(apply kp;iterate 2 exact rfl)|((first|apply kz|apply ky);(·exact rfl);(·repeat(first|exact iO|exact iR rfl|apply iT));iterate 2 exact rfl)|(apply Go.Hb.kK;(iterate 4 exact rfl);intro _)|(apply kU;(iterate 2 exact rfl);(·repeat(first|exact sH _ _ _|apply sT));(first|exact nfL_eq rfl|exact rfl);exact rfl)|(apply kB;(iterate 2 exact rfl);intro _)|(apply kA;exact rfl;intro _)|(apply kq; (· exact rfl); (· intro w1 h1; first | exact CallsTo.q (t49 x.t x.a x.c (some ⟨bs, 0, none⟩) 2 [7, 8] 1 20 (-1) w1 (rowsT_rd hxm (h1.rd_of_blk (by (repeat (first | exact mH _ _ | apply mT))))) hxz (by omega) (h1.rd_of_blk (by (repeat (first | exact mH _ _ | apply mT)))) (fun e => by cases e) (by simp) (by omega)) h1 | exact CallsTo.q (t49 x.t x.a x.c none 0 [] 6 5 4 w1 (rowsT_rd hxm (h1.rd_of_blk (by (repeat (first | exact mH _ _ | apply mT))))) hxz (by omega) (Rd.nil _ _) (fun _ => rfl) (by simp) (by omega)) h1 | exact CallsTo.q (t49 x.t x.a x.c x.a x.c x.t.ask (-9223372036854775808) 9223372036854775807 0 w1 (rowsT_rd hxm (h1.rd_of_blk (by (repeat (first | exact mH _ _ | apply mT))))) hxz (by omega) (rowsT_rd hxm (h1.rd_of_blk (by (repeat (first | exact mH _ _ | apply mT))))) hxz (by omega) (by omega)) h1 | exact CallsTo.q (t49 x.t x.a x.c none 0 [] 0 9007199254740992 1 w1 (rowsT_rd hxm (h1.rd_of_blk (by (repeat (first | exact mH _ _ | apply mT))))) hxz (by omega) (Rd.nil _ _) (fun _ => rfl) (by simp) (by omega)) h1 | exact CallsTo.q (t49 x.t x.a x.c none 0 [] 0 9007199254740991 1 w1 (rowsT_rd hxm (h1.rd_of_blk (by (repeat (first | exact mH _ _ | apply mT))))) hxz (by omega) (Rd.nil _ _) (fun _ => rfl) (by simp) (by omega)) h1)))
        all_goals (refine At.stage_same (fun _ h => St.sub h (by repeat (first | exact List.Sublist.refl _ | apply List.Sublist.cons_cons | apply List.Sublist.cons))) ?_))
      all_goals (
        apply DW.quiet [38, 39, 40, 41, 42, 43, 44, 45]
        · decide +kernel
        · first | exact fun _ h => h | exact fun _ h => St.sub h (by repeat (first | exact List.Sublist.refl _ | apply List.Sublist.cons_cons | apply List.Sublist.cons))
        repeat'(first|(apply yp;iterate 3 exact rfl)|(apply QL.ev;(·exact rfl);(·first|((first|apply Ez|apply Ey);(·exact rfl);(·repeat(first|exact iO|exact iR rfl|apply iT));exact rfl)|((first|apply Ev.fieldAddr|apply Ev.len|apply EqOf.eq|apply EqOf.ne|apply Ev.conv|apply Ev.buildN);exact rfl)|((first|apply Ev.shr|apply Ev.shl);(iterate 2 exact rfl);first|decide|omega));·exact rfl)|(apply QL.ev; (· exact rfl); (· first | (apply Ev.indexAddr; (· exact rfl); (· exact rfl); (· omega); (· simp only [Int.ofNat_lt]; omega)) | (apply Ev.load_agg_at (cs := x.row); (· exact rfl); (· exact rfl); (· intro w' hw'; exact hxr w' hw')) | (apply Ev.load; (· exact rfl); (· intro w' hw'; exact hx8 w' hw'))); (· exact rfl))|(apply QL.evg; (iterate 3 exact rfl); (· first | (apply Ev.indexAddr; (· exact rfl); (· exact rfl); (· omega); (· simp only [Int.ofNat_lt]; omega)) | (apply Ev.load_agg_at (cs := x.row); (· exact rfl); (· exact rfl); (· intro w' hw'; exact hxr w' hw')) | (apply Ev.load; (· exact rfl); (· intro w' hw'; exact hx8 w' hw'))); (· exact rfl))|(apply yq;iterate 5 exact rfl)|(apply QL.evg;(iterate 3 exact rfl);(·first|((first|apply Ez|apply Ey);(·exact rfl);(·repeat(first|exact iO|exact iR rfl|apply iT));exact rfl)|((first|apply Ev.fieldAddr|apply Ev.len|apply EqOf.eq|apply EqOf.ne|apply Ev.conv|apply Ev.buildN);exact rfl)|((first|apply Ev.shr|apply Ev.shl);(iterate 2 exact rfl);first|decide|omega));·exact rfl)|(apply yn;iterate 4 exact rfl)|((apply QL.split;iterate 3 exact rfl);all_goals(intro hc;try simp only[hcs]at hc;try(exfalso;first|contradiction|omega)))|apply QL.nil)
        all_goals (show DW _ _ _ _ _ _ _ _))
      all_goals (
        apply DW.loud 46
        · exact rfl
        · decide +kernel
        repeat'(first|(apply Go.Hb.kK;(iterate 4 exact rfl);intro bs)|(apply kg;iterate 2 exact rfl)|(apply kG;iterate 3 exact rfl)|apply kM|(apply kp;iterate 2 exact rfl)|((first|apply kz|apply ky);(·exact rfl);(·repeat(first|exact iO|exact iR rfl|apply iT));iterate 2 exact rfl)|(apply Go.Hb.kK;(iterate 4 exact rfl);intro _)|(apply kU;(iterate 2 exact rfl);(·repeat(first|exact sH _ _ _|apply sT));(first|exact nfL_eq rfl|exact rfl);exact rfl)|(apply kB;(iterate 2 exact rfl);intro _)|(apply kA;exact rfl;intro _)|(apply kq; (· exact rfl); (· intro w1 h1; first | exact CallsTo.q (t49 x.t x.a x.c (some ⟨bs, 0, none⟩) 2 [7, 8] 1 20 (-1) w1 (rowsT_rd hxm (h1.rd_of_blk (by (repeat (first | exact mH _ _ | apply mT))))) hxz (by omega) (h1.rd_of_blk (by (repeat (first | exact mH _ _ | apply mT)))) (fun e => by cases e) (by simp) (by omega)) h1 | exact CallsTo.q (t49 x.t x.a x.c none 0 [] 6 5 4 w1 (rowsT_rd hxm (h1.rd_of_blk (by (repeat (first | exact mH _ _ | apply mT))))) hxz (by omega) (Rd.nil _ _) (fun _ => rfl) (by simp) (by omega)) h1 | exact CallsTo.q (t49 x.t x.a x.c x.a x.c x.t.ask (-9223372036854775808) 9223372036854775807 0 w1 (rowsT_rd hxm (h1.rd_of_blk (by (repeat (first | exact mH _ _ | apply mT))))) hxz (by omega) (rowsT_rd hxm (h1.rd_of_blk (by (repeat (first | exact mH _ _ | apply mT))))) hxz (by omega) (by omega)) h1 | exact CallsTo.q (t49 x.t x.a x.c none 0 [] 0 9007199254740992 1 w1 (rowsT_rd hxm (h1.rd_of_blk (by (repeat (first | exact mH _ _ | apply mT))))) hxz (by omega) (Rd.nil _ _) (fun _ => rfl) (by simp) (by omega)) h1 | exact CallsTo.q (t49 x.t x.a x.c none 0 [] 0 9007199254740991 1 w1 (rowsT_rd hxm (h1.rd_of_blk (by (repeat (first | exact mH _ _ | apply mT))))) hxz (by omega) (Rd.nil _ _) (fun _ => rfl) (by simp) (by omega)) h1)))
        all_goals (refine At.stage_same (fun _ h => St.sub h (by repeat (first | exact List.Sublist.refl _ | apply List.Sublist.cons_cons | apply List.Sublist.cons))) ?_))
      all_goals (
        apply DW.quiet [47, 48]
        · decide +kernel
        · first | exact fun _ h => h | exact fun _ h => St.sub h (by repeat (first | exact List.Sublist.refl _ | apply List.Sublist.cons_cons | apply List.Sublist.cons))
        repeat'(first|(apply yp;iterate 3 exact rfl)|(apply QL.ev;(·exact rfl);(·first|((first|apply Ez|apply Ey);(·exact rfl);(·repeat(first|exact iO|exact iR rfl|apply iT));exact rfl)|((first|apply Ev.fieldAddr|apply Ev.len|apply EqOf.eq|apply EqOf.ne|apply Ev.conv|apply Ev.buildN);exact rfl)|((first|apply Ev.shr|apply Ev.shl);(iterate 2 exact rfl);first|decide|omega));·exact rfl)|(apply QL.ev; (· exact rfl); (· first | (apply Ev.indexAddr; (· exact rfl); (· exact rfl); (· omega); (· simp only [Int.ofNat_lt]; omega)) | (apply Ev.load_agg_at (cs := x.row); (· exact rfl); (· exact rfl); (· intro w' hw'; exact hxr w' hw')) | (apply Ev.load; (· exact rfl); (· intro w' hw'; exact hx8 w' hw'))); (· exact rfl))|(apply QL.evg; (iterate 3 exact rfl); (· first | (apply Ev.indexAddr; (· exact rfl); (· exact rfl); (· omega); (· simp only [Int.ofNat_lt]; omega)) | (apply Ev.load_agg_at (cs := x.row); (· exact rfl); (· exact rfl); (· intro w' hw'; exact hxr w' hw')) | (apply Ev.load; (· exact rfl); (· intro w' hw'; exact hx8 w' hw'))); (· exact rfl))|(apply yq;iterate 5 exact rfl)|(apply QL.evg;(iterate 3 exact rfl);(·first|((first|apply Ez|apply Ey);(·exact rfl);(·repeat(first|exact iO|exact iR rfl|apply iT));exact rfl)|((first|apply Ev.fieldAddr|apply Ev.len|apply EqOf.eq|apply EqOf.ne|apply Ev.conv|apply Ev.buildN);exact rfl)|((first|apply Ev.shr|apply Ev.shl);(iterate 2 exact rfl);first|decide|omega));·exact rfl)|(apply yn;iterate 4 exact rfl)|((apply QL.split;iterate 3 exact rfl);all_goals(intro hc;try simp only[hcs]at hc;try(exfalso;first|contradiction|omega)))|apply QL.nil)
        all_goals (show DW _ _ _ _ _ _ _ _))
      all_goals (first | (apply DW.done_thn; (· decide +kernel)) | (apply DW.done; (· decide +kernel)))
      repeat'(first|(apply kp;iterate 2 exact rfl)|apply jJ|(apply jE;exact rfl)|(apply jp;exact rfl)|(apply jc;kernel_rfl)|((first|apply kf|apply kn|apply ke|apply kx|apply kc|apply kb);iterate 2 exact rfl)|((first|apply kz|apply ky);(·exact rfl);(·repeat(first|exact iO|exact iR rfl|apply iT));iterate 2 exact rfl)|(apply kg;iterate 2 exact rfl)|(apply kG;iterate 3 exact rfl)|(apply kB;(iterate 2 exact rfl);intro _)|(apply kA;exact rfl;intro _)|(apply Go.Hb.kK;(iterate 4 exact rfl);intro _)|(apply kU;(iterate 2 exact rfl);(·repeat(first|exact sH _ _ _|apply sT));(first|exact nfL_eq rfl|exact rfl);exact rfl)|((first|apply kh|apply kl);(iterate 2 exact rfl);(first|decide|omega);exact rfl)|(apply addX;(iterate 2 exact rfl);(iterate 2(first|omega|(dsimp only;omega)));exact rfl)|((first|(apply kR;iterate 2 exact rfl)|(apply kQ;exact rfl));all_goals(intro hc;try simp only[hcs]at hc;try(exfalso;first|contradiction|omega))))
      refine At.again (i + 1) (by omega) ?_ ⟨rfl, trivial⟩ (fun w' hw' => hw'.sub (by (repeat (first | exact List.Sublist.refl _ | apply List.Sublist.cons_cons | apply List.Sublist.cons)))) (by omega)
      (repeat (first | exact Out.refl _ _ | exact Out.mix | (apply Out.upd; (· exact rfl)) | (apply Out.updL; (· exact rfl)) | (apply Out.mixs; (· exact rfl))))
  · have hie : i = 6 := by omega
    subst hie
    repeat'(first|(apply Go.Hb.kK;(iterate 4 exact rfl);intro bs)|(apply kp;iterate 2 exact rfl)|apply jJ|(apply jE;exact rfl)|(apply jp;exact rfl)|(apply jc;kernel_rfl)|((first|apply kf|apply kn|apply ke|apply kx|apply kc|apply kb);iterate 2 exact rfl)|((first|apply kz|apply ky);(·exact rfl);(·repeat(first|exact iO|exact iR rfl|apply iT));iterate 2 exact rfl)|(apply kg;iterate 2 exact rfl)|(apply kG;iterate 3 exact rfl)|(apply kB;(iterate 2 exact rfl);intro _)|(apply kA;exact rfl;intro _)|(apply Go.Hb.kK;(iterate 4 exact rfl);intro _)|(apply kU;(iterate 2 exact rfl);(·repeat(first|exact sH _ _ _|apply sT));(first|exact nfL_eq rfl|exact rfl);exact rfl)|((first|apply kh|apply kl);(iterate 2 exact rfl);(first|decide|omega);exact rfl)|(apply kq; (· exact rfl); (· intro w1 h1; exact CallsTo.q (t20 w1) h1))|((first|(apply kR;iterate 2 exact rfl)|(apply kQ;exact rfl));all_goals(intro hc;try simp only[hcs]at hc;try(exfalso;first|contradiction|omega))))
    apply LR.call
    · exact rfl
    intro w1 h1
    have h46 := t46 uTk (some ⟨bu, 0, none⟩) 3 (some ⟨bs, 0, none⟩) 2 [7, 8] w1 (h1.rd_of_blk (by (repeat (first | exact mH _ _ | apply mT)))) (fun e => by cases e) (by simp [uTk]) (h1.rd_of_blk (by (repeat (first | exact mH _ _ | apply mT)))) (by simp)
    rw [show answerT uTk [7, 8] = ⟨4, 1, 1, 9, 5, 3, 20, 4, [5, 9]⟩ by decide +kernel, show keepI [7, 8] uTk.ask = [5, 9] by decide +kernel] at h46
    refine CallsTo.mono (show CallsTo Try.prog 46 _ w1 _ from h46) ?_
    rintro v w2 ⟨a4, c4, rfl, hn⟩
    refine LR.back (St.newOd h1 hn) ?_
    clear hn h1
    repeat'(first|(apply Go.Hb.kK;(iterate 4 exact rfl);intro bt)|(apply kp;iterate 2 exact rfl)|apply jJ|(apply jE;exact rfl)|(apply jp;exact rfl)|(apply jc;kernel_rfl)|((first|apply kf|apply kn|apply ke|apply kx|apply kc|apply kb);iterate 2 exact rfl)|((first|apply kz|apply ky);(·exact rfl);(·repeat(first|exact iO|exact iR rfl|apply iT));iterate 2 exact rfl)|(apply kg;iterate 2 exact rfl)|(apply kG;iterate 3 exact rfl)|(apply kB;(iterate 2 exact rfl);intro _)|(apply kA;exact rfl;intro _)|(apply Go.Hb.kK;(iterate 4 exact rfl);intro _)|(apply kU;(iterate 2 exact rfl);(·repeat(first|exact sH _ _ _|apply sT));(first|exact nfL_eq rfl|exact rfl);exact rfl)|((first|apply kh|apply kl);(iterate 2 exact rfl);(first|decide|omega);exact rfl)|(apply LR.ev; (· apply Ev.field Try.underlying26; (· exact rfl); (· first | exact (inferInstance : One Try.prog 24) | exact (inferInstance : One Try.prog 3)); (· exact rfl); (· exact rfl)); (· exact rfl))|(apply kq; (· exact rfl); (· intro w1 h1; exact CallsTo.q (t19 a4 (some ⟨bt, 0, none⟩) c4 2 [5, 9] [5, 9] w1 (h1.rd_of_odl (by (repeat (first | exact mH _ _ | apply mT)))) (h1.rd_of_blk (by (repeat (first | exact mH _ _ | apply mT)))) (by simp)) h1))|(apply LR.call; (· exact rfl); (intro w1 h1; first | (refine CallsTo.mono (show CallsTo Try.prog 50 _ w1 _ from t50 uTk (some ⟨bu, 0, none⟩) 3 false w1 (h1.rd_of_blk (by (repeat (first | exact mH _ _ | apply mT)))) (fun e => by cases e) (by simp [uTk]) (by simp [uTk])) ?_; rintro v w2 ⟨a5, c5, rfl, hn⟩; refine LR.back (h1.newSl hn) ?_; clear hn h1) | (refine CallsTo.mono (show CallsTo Try.prog 50 _ w1 _ from t50 uTk (some ⟨bu, 0, none⟩) 3 true w1 (h1.rd_of_blk (by (repeat (first | exact mH _ _ | apply mT)))) (fun e => by cases e) (by simp [uTk]) (by simp [uTk])) ?_; rintro v w2 ⟨a6, c6, rfl, hn⟩; refine LR.back (h1.newSl hn) ?_; clear hn h1)))|((first|(apply kR;iterate 2 exact rfl)|(apply kQ;exact rfl));all_goals(intro hc;try simp only[hcs]at hc;try(exfalso;first|contradiction|omega))))
    (apply ret1; (· exact rfl); intro w' hS)
    exact ⟨congrArg Value.bool (by decide +kernel), hS.toKeep⟩
end Go.Proofs.Ythmmmbphknoagaa

namespace Go.Proofs.Ythmmmbphknoagaa
open Go.Hb Go.ChangeShapes Go.WideShapes
attribute [local irreducible] LR CW At Ev thn blk finK noG again CallsTo DW QL dnext
set_option linter.unusedSimpArgs false
set_option linter.unusedVariables false

set_option maxHeartbeats 1000000 in
set_option maxRecDepth 100000 in
theorem tokenNames_lifted (os : Os) (started : os.Started) (H : Type) (enc : TypeId × Value → H) :
    ReturnsInHanded {} Try.checked os 11 .any (Rows.tokenNamesSpec.pre6 enc Try.prog Try.f11 Rows.tokenNamesRow.domain false) (Rows.tokenNamesSpec.post enc Try.prog Try.f11 false true false false) := by
  refine returnsInHanded_of_change_sized (C := Try.checked) (s := Rows.tokenNamesSpec) own_knob started (by kernel_rfl) Try.func11
    (ChangeSpec.witness6 (enc := enc) (C := Try.checked) false ⟨#[], #[], []⟩ 12 (by kernel_rfl) (by kernel_rfl) (by kernel_rfl) (by kernel_rfl)) ?_
  intro W base args ds gs before hval hW hcnd hwt _
  have hW' := hW
  obtain ⟨p, q, hA0, hV, rfl, hfz, hnd⟩ := hW'
  obtain ⟨rfl, rfl⟩ := trodVars_none hV
  have hA : DataW.TrodAll enc Try.prog W 0 (fun _ => true) true Try.f11.params.toList args.toList ds p := hA0
  rw [Try.params11] at hA
  obtain ⟨hargs, rfl, rfl⟩ := trodAll_nil hA
  obtain rfl : args = #[] := by cases args; simp_all
  refine (t11 W).calls fun v W' ⟨hv, hg⟩ => ⟨v, rfl, ?_⟩
  subst hv
  exact law_post kids full_slices hW hg rfl rfl (by kernel_rfl) Try.underlying4 (by rw [Try.params11]; decide +kernel)

theorem tokenNames_holds : Rows.TokenNamesSaid :=
  OpenClaim.holds_of_wide 11 Try.f11 rfl rfl rfl rfl rfl rfl rfl ⟨rfl, rfl, rfl, rfl, rfl⟩ rfl rfl rfl rfl rfl (by kernel_rfl) Try.func11 (by kernel_rfl)
    (of_decide_eq_true (by kernel_rfl)) (by unfold Func.isWrapper; first | (rw [if_pos (by decide +kernel)]; kernel_rfl) | (rw [if_neg (by decide +kernel)]; exact ⟨rfl, rfl⟩))
    (fun os started H enc _ => tokenNames_lifted os started H enc)
end Go.Proofs.Ythmmmbphknoagaa
