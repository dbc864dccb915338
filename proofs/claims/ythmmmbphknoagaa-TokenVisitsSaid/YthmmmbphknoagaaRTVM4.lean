/-
  The law TokenVisits holds, as its row says it: which tokens may be, and what becomes of one at a visit. Conditions: none.
-/
import Derived.Test.YthmmmbphknoagaaRTVM3

namespace Go.Proofs.Ythmmmbphknoagaa
open Go.Hb
attribute [local irreducible] LR CW At Ev thn blk finK noG again CallsTo DW QL dnext
set_option linter.unusedSimpArgs false
set_option linter.unusedVariables false
set_option maxRecDepth 100000

theorem st_odl1 {b o i q n c : Nat} {x : Int} {l : List Int} (hq : q = o + i) (h : i < l.length) : Stores Try.prog 3 ⟨b, q, none⟩ (.int .i64 x) (odl (.slice (some ⟨b, o, none⟩) n c) 3 1 n (iv l)) (odl (.slice (some ⟨b, o, none⟩) n c) 3 1 n (iv (l.set i x))) := by
  subst hq
  have := Stores.odl (P := Try.prog) (T := 3) (b := b) (o := o) (i := i) (n := n) (c := c) (v := .int .i64 x) (vs := [.int .i64 x]) (xs := iv l) (E := 3) (sz := 1) (q := 1) inferInstance rfl rfl rfl (by simp [iv]; omega)
  rwa [splice_one1 _ _ _ (by simpa using h), iv_set] at this
set_option maxHeartbeats 4000000 in
theorem t3 (t : Tk) (a : Option Addr) (c : Nat) (v : Vst) (ag : Option Addr) (cg : Nat) (w : World) (hr : Rd w a (iv t.ask)) (hz : a = none → c = 0) (hm : t.ask.length ≤ 17592186043904) (hrg : Rd w ag (iv v.gaps)) (hzg : ag = none → cg = 0) (hmg : v.gaps.length ≤ 17592186043904) :
    CallsTo Try.prog 3 [t.val a c, v.val ag cg] w fun u w' => u = .bool true ∧ Grew w w' := by
  refine go_in (n := 77) (St.rd2 hr hrg) Try.func3 rfl rfl ?_
  have hV : ∃ R, R = visitT t v.node v.aru v.gaps := ⟨_, rfl⟩
  obtain ⟨R, hR⟩ := hV
  have h14 := fun ai ci ag2 cg2 w1 => t14 t ai ci v.node v.aru ag2 cg2 v.gaps w1
  have h15 := fun w1 => t15 t a c v.node v.aru ag cg v.gaps w1
  rw [← hR] at h14 h15
  repeat'(first|(apply kB;(iterate 2 exact rfl);intro _)|(apply CW.reg_heldC)|(apply kp;iterate 2 exact rfl)|apply jJ|(apply jE;exact rfl)|(apply jp;exact rfl)|(apply jc;kernel_rfl)|((first|apply kf|apply kn|apply ke|apply kx|apply kc|apply kb);iterate 2 exact rfl)|((first|apply kz|apply ky);(·exact rfl);(·repeat(first|exact iO|exact iR rfl|apply iT));iterate 2 exact rfl)|(apply kg;iterate 2 exact rfl)|(apply kG;iterate 3 exact rfl)|(apply kB;(iterate 2 exact rfl);intro _)|(apply kA;exact rfl;intro _)|(apply Go.Hb.kK;(iterate 4 exact rfl);intro _)|(apply kU;(iterate 2 exact rfl);(·repeat(first|exact sH _ _ _|apply sT));(first|exact nfL_eq rfl|exact rfl);exact rfl)|((first|apply kh|apply kl);(iterate 2 exact rfl);(first|decide|omega);exact rfl)|(apply LR.call; (· exact rfl); (intro w1 h1; first | (refine (t12 t a c w1 (h1.rd_of (by (repeat (first | exact mH _ _ | apply mT)))) hz hm).mono ?_; rintro v w2 ⟨a1, c1, rfl, hn⟩; have hz1 := ownsAt_nz (ownsAt_of (ownsRow_zero hn.own)); refine LR.back (h1.newSl hn) ?_; clear hn h1) | (refine (t13 ag cg v.gaps w1 (h1.rd_of (by (repeat (first | exact mH _ _ | apply mT)))) hzg hmg).mono ?_; rintro v w2 ⟨a2, c2, rfl, hn⟩; refine LR.back (h1.newSl hn) ?_; clear hn h1) | (refine (h14 a1 c1 a2 c2 w1 (h1.rd_of_own (by (repeat (first | exact mH _ _ | apply mT)))) hz1 hm (h1.rd_of_own (by (repeat (first | exact mH _ _ | apply mT)))) hmg).mono ?_; rintro v w2 ⟨a3, c3, rfl, hn⟩; have hf3 := fun h => (ownsAt_rd hn.own).form h; refine LR.back (St.newOd h1 hn) ?_; clear hn h1) | (refine (h15 w1 (h1.rd_of (by (repeat (first | exact mH _ _ | apply mT)))) hm (h1.rd_of (by (repeat (first | exact mH _ _ | apply mT)))) hmg).mono ?_; rintro v w2 ⟨a4, c4, rfl, hn⟩; refine LR.back (h1.newSl hn) ?_; clear hn h1)))|((first|(apply kR;iterate 2 exact rfl)|(apply kQ;exact rfl));all_goals(intro hc;try simp only[hcs]at hc;try(exfalso;first|contradiction|omega))))
  rename_i p2 p3 wa wb p5 wc wd we wf p7 p8
  have hR16 : R.ask.length ≤ 16 := by
    rw [hR]
    unfold visitT
    split
    · exact askV_len _ _
    · simp [noTk]
  all_goals (
    apply DW.quiet [0, 2]
    · decide +kernel
    · first | exact fun _ h => h | exact fun _ h => St.sub h (by repeat (first | exact List.Sublist.refl _ | apply List.Sublist.cons_cons | apply List.Sublist.cons))
    repeat'(first|(apply yp;iterate 3 exact rfl)|(apply QL.ev;(·exact rfl);(·first|((first|apply Ez|apply Ey);(·exact rfl);(·repeat(first|exact iO|exact iR rfl|apply iT));exact rfl)|((first|apply Ev.fieldAddr|apply Ev.len|apply EqOf.eq|apply EqOf.ne|apply Ev.conv|apply Ev.buildN);exact rfl)|((first|apply Ev.shr|apply Ev.shl);(iterate 2 exact rfl);first|decide|omega));·exact rfl)|(apply yq;iterate 5 exact rfl)|(apply QL.evg;(iterate 3 exact rfl);(·first|((first|apply Ez|apply Ey);(·exact rfl);(·repeat(first|exact iO|exact iR rfl|apply iT));exact rfl)|((first|apply Ev.fieldAddr|apply Ev.len|apply EqOf.eq|apply EqOf.ne|apply Ev.conv|apply Ev.buildN);exact rfl)|((first|apply Ev.shr|apply Ev.shl);(iterate 2 exact rfl);first|decide|omega));·exact rfl)|(apply yn;iterate 4 exact rfl)|((apply QL.split;iterate 3 exact rfl);all_goals(intro hc;try simp only[hcs]at hc;try(exfalso;first|contradiction|omega)))|apply QL.nil)
    all_goals (show DW _ _ _ _ _ _ _ _))
  all_goals (
    apply DW.loud 1
    · exact rfl
    · decide +kernel
    repeat'(first|(apply kg;iterate 2 exact rfl)|(apply kG;iterate 3 exact rfl)|apply kM|(apply kp;iterate 2 exact rfl)|((first|apply kz|apply ky);(·exact rfl);(·repeat(first|exact iO|exact iR rfl|apply iT));iterate 2 exact rfl)|(apply Go.Hb.kK;(iterate 4 exact rfl);intro _)|(apply kU;(iterate 2 exact rfl);(·repeat(first|exact sH _ _ _|apply sT));(first|exact nfL_eq rfl|exact rfl);exact rfl)|(apply kB;(iterate 2 exact rfl);intro _)|(apply kA;exact rfl;intro _)|(apply kq; (· exact rfl); (· intro w1 h1; first | exact CallsTo.q (t20 w1) h1 | exact CallsTo.q (t16 t a1 c1 w1 (h1.rd_of_own (by (repeat (first | exact mH _ _ | apply mT)))) (by omega)) h1 | exact CallsTo.q (t17 t a c w1 (h1.rd_of (by (repeat (first | exact mH _ _ | apply mT)))) hm) h1 | (have hq := CallsTo.q (t18 R R a3 a4 c3 c4 w1 (h1.rd_of_odl (by (repeat (first | exact mH _ _ | apply mT)))) (h1.rd_of_own (by (repeat (first | exact mH _ _ | apply mT)))) (by omega)) h1; rw [decide_eq_true rfl] at hq; exact hq) | (have hq := CallsTo.q (t18 t t a1 a c1 c w1 (h1.rd_of_own (by (repeat (first | exact mH _ _ | apply mT)))) (h1.rd_of (by (repeat (first | exact mH _ _ | apply mT)))) hm) h1; rw [decide_eq_true rfl] at hq; exact hq) | (have hq := CallsTo.q (t19 a2 ag c2 cg v.gaps v.gaps w1 (h1.rd_of_own (by (repeat (first | exact mH _ _ | apply mT)))) (h1.rd_of (by (repeat (first | exact mH _ _ | apply mT)))) hmg) h1; rw [decide_eq_true rfl] at hq; exact hq))))
    all_goals (refine At.stage_same (fun _ h => St.sub h (by repeat (first | exact List.Sublist.refl _ | apply List.Sublist.cons_cons | apply List.Sublist.cons))) ?_))
  all_goals (
    apply DW.loud 3
    · exact rfl
    · decide +kernel
    repeat'(first|(apply kg;iterate 2 exact rfl)|(apply kG;iterate 3 exact rfl)|apply kM|(apply kp;iterate 2 exact rfl)|((first|apply kz|apply ky);(·exact rfl);(·repeat(first|exact iO|exact iR rfl|apply iT));iterate 2 exact rfl)|(apply Go.Hb.kK;(iterate 4 exact rfl);intro _)|(apply kU;(iterate 2 exact rfl);(·repeat(first|exact sH _ _ _|apply sT));(first|exact nfL_eq rfl|exact rfl);exact rfl)|(apply kB;(iterate 2 exact rfl);intro _)|(apply kA;exact rfl;intro _)|(apply kq; (· exact rfl); (· intro w1 h1; first | exact CallsTo.q (t20 w1) h1 | exact CallsTo.q (t16 t a1 c1 w1 (h1.rd_of_own (by (repeat (first | exact mH _ _ | apply mT)))) (by omega)) h1 | exact CallsTo.q (t17 t a c w1 (h1.rd_of (by (repeat (first | exact mH _ _ | apply mT)))) hm) h1 | (have hq := CallsTo.q (t18 R R a3 a4 c3 c4 w1 (h1.rd_of_odl (by (repeat (first | exact mH _ _ | apply mT)))) (h1.rd_of_own (by (repeat (first | exact mH _ _ | apply mT)))) (by omega)) h1; rw [decide_eq_true rfl] at hq; exact hq) | (have hq := CallsTo.q (t18 t t a1 a c1 c w1 (h1.rd_of_own (by (repeat (first | exact mH _ _ | apply mT)))) (h1.rd_of (by (repeat (first | exact mH _ _ | apply mT)))) hm) h1; rw [decide_eq_true rfl] at hq; exact hq) | (have hq := CallsTo.q (t19 a2 ag c2 cg v.gaps v.gaps w1 (h1.rd_of_own (by (repeat (first | exact mH _ _ | apply mT)))) (h1.rd_of (by (repeat (first | exact mH _ _ | apply mT)))) hmg) h1; rw [decide_eq_true rfl] at hq; exact hq))))
    all_goals (refine At.stage_same (fun _ h => St.sub h (by repeat (first | exact List.Sublist.refl _ | apply List.Sublist.cons_cons | apply List.Sublist.cons))) ?_))
  all_goals (
    apply DW.quiet [4, 5, 6, 7]
    · decide +kernel
    · first | exact fun _ h => h | exact fun _ h => St.sub h (by repeat (first | exact List.Sublist.refl _ | apply List.Sublist.cons_cons | apply List.Sublist.cons))
    repeat'(first|(apply yp;iterate 3 exact rfl)|(apply QL.ev;(·exact rfl);(·first|((first|apply Ez|apply Ey);(·exact rfl);(·repeat(first|exact iO|exact iR rfl|apply iT));exact rfl)|((first|apply Ev.fieldAddr|apply Ev.len|apply EqOf.eq|apply EqOf.ne|apply Ev.conv|apply Ev.buildN);exact rfl)|((first|apply Ev.shr|apply Ev.shl);(iterate 2 exact rfl);first|decide|omega));·exact rfl)|(apply yq;iterate 5 exact rfl)|(apply QL.evg;(iterate 3 exact rfl);(·first|((first|apply Ez|apply Ey);(·exact rfl);(·repeat(first|exact iO|exact iR rfl|apply iT));exact rfl)|((first|apply Ev.fieldAddr|apply Ev.len|apply EqOf.eq|apply EqOf.ne|apply Ev.conv|apply Ev.buildN);exact rfl)|((first|apply Ev.shr|apply Ev.shl);(iterate 2 exact rfl);first|decide|omega));·exact rfl)|(apply yn;iterate 4 exact rfl)|((apply QL.split;iterate 3 exact rfl);all_goals(intro hc;try simp only[hcs]at hc;try(exfalso;first|contradiction|omega)))|apply QL.nil)
    all_goals (show DW _ _ _ _ _ _ _ _))
  all_goals (
    apply DW.loud 8
    · exact rfl
    · decide +kernel
    repeat'(first|(apply kg;iterate 2 exact rfl)|(apply kG;iterate 3 exact rfl)|apply kM|(apply kp;iterate 2 exact rfl)|((first|apply kz|apply ky);(·exact rfl);(·repeat(first|exact iO|exact iR rfl|apply iT));iterate 2 exact rfl)|(apply Go.Hb.kK;(iterate 4 exact rfl);intro _)|(apply kU;(iterate 2 exact rfl);(·repeat(first|exact sH _ _ _|apply sT));(first|exact nfL_eq rfl|exact rfl);exact rfl)|(apply kB;(iterate 2 exact rfl);intro _)|(apply kA;exact rfl;intro _)|(apply kq; (· exact rfl); (· intro w1 h1; first | exact CallsTo.q (t20 w1) h1 | exact CallsTo.q (t16 t a1 c1 w1 (h1.rd_of_own (by (repeat (first | exact mH _ _ | apply mT)))) (by omega)) h1 | exact CallsTo.q (t17 t a c w1 (h1.rd_of (by (repeat (first | exact mH _ _ | apply mT)))) hm) h1 | (have hq := CallsTo.q (t18 R R a3 a4 c3 c4 w1 (h1.rd_of_odl (by (repeat (first | exact mH _ _ | apply mT)))) (h1.rd_of_own (by (repeat (first | exact mH _ _ | apply mT)))) (by omega)) h1; rw [decide_eq_true rfl] at hq; exact hq) | (have hq := CallsTo.q (t18 t t a1 a c1 c w1 (h1.rd_of_own (by (repeat (first | exact mH _ _ | apply mT)))) (h1.rd_of (by (repeat (first | exact mH _ _ | apply mT)))) hm) h1; rw [decide_eq_true rfl] at hq; exact hq) | (have hq := CallsTo.q (t19 a2 ag c2 cg v.gaps v.gaps w1 (h1.rd_of_own (by (repeat (first | exact mH _ _ | apply mT)))) (h1.rd_of (by (repeat (first | exact mH _ _ | apply mT)))) hmg) h1; rw [decide_eq_true rfl] at hq; exact hq))))
    all_goals (refine At.stage_same (fun _ h => St.sub h (by repeat (first | exact List.Sublist.refl _ | apply List.Sublist.cons_cons | apply List.Sublist.cons))) ?_))
  all_goals (
    apply DW.quiet [9, 10, 11, 12, 13]
    · decide +kernel
    · first | exact fun _ h => h | exact fun _ h => St.sub h (by repeat (first | exact List.Sublist.refl _ | apply List.Sublist.cons_cons | apply List.Sublist.cons))
    repeat'(first|(apply yp;iterate 3 exact rfl)|(apply QL.ev;(·exact rfl);(·first|((first|apply Ez|apply Ey);(·exact rfl);(·repeat(first|exact iO|exact iR rfl|apply iT));exact rfl)|((first|apply Ev.fieldAddr|apply Ev.len|apply EqOf.eq|apply EqOf.ne|apply Ev.conv|apply Ev.buildN);exact rfl)|((first|apply Ev.shr|apply Ev.shl);(iterate 2 exact rfl);first|decide|omega));·exact rfl)|(apply yq;iterate 5 exact rfl)|(apply QL.evg;(iterate 3 exact rfl);(·first|((first|apply Ez|apply Ey);(·exact rfl);(·repeat(first|exact iO|exact iR rfl|apply iT));exact rfl)|((first|apply Ev.fieldAddr|apply Ev.len|apply EqOf.eq|apply EqOf.ne|apply Ev.conv|apply Ev.buildN);exact rfl)|((first|apply Ev.shr|apply Ev.shl);(iterate 2 exact rfl);first|decide|omega));·exact rfl)|(apply yn;iterate 4 exact rfl)|((apply QL.split;iterate 3 exact rfl);all_goals(intro hc;try simp only[hcs]at hc;try(exfalso;first|contradiction|omega)))|apply QL.nil)
    all_goals (show DW _ _ _ _ _ _ _ _))
  all_goals (
    apply DW.loud 14
    · exact rfl
    · decide +kernel
    repeat'(first|(apply kg;iterate 2 exact rfl)|(apply kG;iterate 3 exact rfl)|apply kM|(apply kp;iterate 2 exact rfl)|((first|apply kz|apply ky);(·exact rfl);(·repeat(first|exact iO|exact iR rfl|apply iT));iterate 2 exact rfl)|(apply Go.Hb.kK;(iterate 4 exact rfl);intro _)|(apply kU;(iterate 2 exact rfl);(·repeat(first|exact sH _ _ _|apply sT));(first|exact nfL_eq rfl|exact rfl);exact rfl)|(apply kB;(iterate 2 exact rfl);intro _)|(apply kA;exact rfl;intro _)|(apply kq; (· exact rfl); (· intro w1 h1; first | exact CallsTo.q (t20 w1) h1 | exact CallsTo.q (t16 t a1 c1 w1 (h1.rd_of_own (by (repeat (first | exact mH _ _ | apply mT)))) (by omega)) h1 | exact CallsTo.q (t17 t a c w1 (h1.rd_of (by (repeat (first | exact mH _ _ | apply mT)))) hm) h1 | (have hq := CallsTo.q (t18 R R a3 a4 c3 c4 w1 (h1.rd_of_odl (by (repeat (first | exact mH _ _ | apply mT)))) (h1.rd_of_own (by (repeat (first | exact mH _ _ | apply mT)))) (by omega)) h1; rw [decide_eq_true rfl] at hq; exact hq) | (have hq := CallsTo.q (t18 t t a1 a c1 c w1 (h1.rd_of_own (by (repeat (first | exact mH _ _ | apply mT)))) (h1.rd_of (by (repeat (first | exact mH _ _ | apply mT)))) hm) h1; rw [decide_eq_true rfl] at hq; exact hq) | (have hq := CallsTo.q (t19 a2 ag c2 cg v.gaps v.gaps w1 (h1.rd_of_own (by (repeat (first | exact mH _ _ | apply mT)))) (h1.rd_of (by (repeat (first | exact mH _ _ | apply mT)))) hmg) h1; rw [decide_eq_true rfl] at hq; exact hq))))
    all_goals (refine At.stage_same (fun _ h => St.sub h (by repeat (first | exact List.Sublist.refl _ | apply List.Sublist.cons_cons | apply List.Sublist.cons))) ?_))
  all_goals (
    apply DW.quiet [15, 16, 17, 18, 19, 20]
    · decide +kernel
    · first | exact fun _ h => h | exact fun _ h => St.sub h (by repeat (first | exact List.Sublist.refl _ | apply List.Sublist.cons_cons | apply List.Sublist.cons))
    repeat'(first|(apply yp;iterate 3 exact rfl)|(apply QL.ev;(·exact rfl);(·first|((first|apply Ez|apply Ey);(·exact rfl);(·repeat(first|exact iO|exact iR rfl|apply iT));exact rfl)|((first|apply Ev.fieldAddr|apply Ev.len|apply EqOf.eq|apply EqOf.ne|apply Ev.conv|apply Ev.buildN);exact rfl)|((first|apply Ev.shr|apply Ev.shl);(iterate 2 exact rfl);first|decide|omega));·exact rfl)|(apply yq;iterate 5 exact rfl)|(apply QL.evg;(iterate 3 exact rfl);(·first|((first|apply Ez|apply Ey);(·exact rfl);(·repeat(first|exact iO|exact iR rfl|apply iT));exact rfl)|((first|apply Ev.fieldAddr|apply Ev.len|apply EqOf.eq|apply EqOf.ne|apply Ev.conv|apply Ev.buildN);exact rfl)|((first|apply Ev.shr|apply Ev.shl);(iterate 2 exact rfl);first|decide|omega));·exact rfl)|(apply yn;iterate 4 exact rfl)|((apply QL.split;iterate 3 exact rfl);all_goals(intro hc;try simp only[hcs]at hc;try(exfalso;first|contradiction|omega)))|apply QL.nil)
    all_goals (show DW _ _ _ _ _ _ _ _))
  all_goals (
    apply DW.loud 21
    · exact rfl
    · decide +kernel
    repeat'(first|(apply kg;iterate 2 exact rfl)|(apply kG;iterate 3 exact rfl)|apply kM|(apply kp;iterate 2 exact rfl)|((first|apply kz|apply ky);(·exact rfl);(·repeat(first|exact iO|exact iR rfl|apply iT));iterate 2 exact rfl)|(apply Go.Hb.kK;(iterate 4 exact rfl);intro _)|(apply kU;(iterate 2 exact rfl);(·repeat(first|exact sH _ _ _|apply sT));(first|exact nfL_eq rfl|exact rfl);exact rfl)|(apply kB;(iterate 2 exact rfl);intro _)|(apply kA;exact rfl;intro _)|(apply kq; (· exact rfl); (· intro w1 h1; first | exact CallsTo.q (t20 w1) h1 | exact CallsTo.q (t16 t a1 c1 w1 (h1.rd_of_own (by (repeat (first | exact mH _ _ | apply mT)))) (by omega)) h1 | exact CallsTo.q (t17 t a c w1 (h1.rd_of (by (repeat (first | exact mH _ _ | apply mT)))) hm) h1 | (have hq := CallsTo.q (t18 R R a3 a4 c3 c4 w1 (h1.rd_of_odl (by (repeat (first | exact mH _ _ | apply mT)))) (h1.rd_of_own (by (repeat (first | exact mH _ _ | apply mT)))) (by omega)) h1; rw [decide_eq_true rfl] at hq; exact hq) | (have hq := CallsTo.q (t18 t t a1 a c1 c w1 (h1.rd_of_own (by (repeat (first | exact mH _ _ | apply mT)))) (h1.rd_of (by (repeat (first | exact mH _ _ | apply mT)))) hm) h1; rw [decide_eq_true rfl] at hq; exact hq) | (have hq := CallsTo.q (t19 a2 ag c2 cg v.gaps v.gaps w1 (h1.rd_of_own (by (repeat (first | exact mH _ _ | apply mT)))) (h1.rd_of (by (repeat (first | exact mH _ _ | apply mT)))) hmg) h1; rw [decide_eq_true rfl] at hq; exact hq))))
    all_goals (refine At.stage_same (fun _ h => St.sub h (by repeat (first | exact List.Sublist.refl _ | apply List.Sublist.cons_cons | apply List.Sublist.cons))) ?_))
  all_goals (
    apply DW.quiet [22, 23]
    · decide +kernel
    · first | exact fun _ h => h | exact fun _ h => St.sub h (by repeat (first | exact List.Sublist.refl _ | apply List.Sublist.cons_cons | apply List.Sublist.cons))
    repeat'(first|(apply yp;iterate 3 exact rfl)|(apply QL.ev;(·exact rfl);(·first|((first|apply Ez|apply Ey);(·exact rfl);(·repeat(first|exact iO|exact iR rfl|apply iT));exact rfl)|((first|apply Ev.fieldAddr|apply Ev.len|apply EqOf.eq|apply EqOf.ne|apply Ev.conv|apply Ev.buildN);exact rfl)|((first|apply Ev.shr|apply Ev.shl);(iterate 2 exact rfl);first|decide|omega));·exact rfl)|(apply yq;iterate 5 exact rfl)|(apply QL.evg;(iterate 3 exact rfl);(·first|((first|apply Ez|apply Ey);(·exact rfl);(·repeat(first|exact iO|exact iR rfl|apply iT));exact rfl)|((first|apply Ev.fieldAddr|apply Ev.len|apply EqOf.eq|apply EqOf.ne|apply Ev.conv|apply Ev.buildN);exact rfl)|((first|apply Ev.shr|apply Ev.shl);(iterate 2 exact rfl);first|decide|omega));·exact rfl)|(apply yn;iterate 4 exact rfl)|((apply QL.split;iterate 3 exact rfl);all_goals(intro hc;try simp only[hcs]at hc;try(exfalso;first|contradiction|omega)))|apply QL.nil)
    all_goals (show DW _ _ _ _ _ _ _ _))
  all_goals (first | (apply DW.done_thn; (· decide +kernel)) | (apply DW.done; (· decide +kernel)))
  repeat'(first|(apply kp;iterate 2 exact rfl)|apply jJ|(apply jE;exact rfl)|(apply jp;exact rfl)|(apply jc;kernel_rfl)|((first|apply kf|apply kn|apply ke|apply kx|apply kc|apply kb);iterate 2 exact rfl)|((first|apply kz|apply ky);(·exact rfl);(·repeat(first|exact iO|exact iR rfl|apply iT));iterate 2 exact rfl)|(apply kg;iterate 2 exact rfl)|(apply kG;iterate 3 exact rfl)|(apply kB;(iterate 2 exact rfl);intro _)|(apply kA;exact rfl;intro _)|(apply Go.Hb.kK;(iterate 4 exact rfl);intro _)|(apply kU;(iterate 2 exact rfl);(·repeat(first|exact sH _ _ _|apply sT));(first|exact nfL_eq rfl|exact rfl);exact rfl)|((first|apply kh|apply kl);(iterate 2 exact rfl);(first|decide|omega);exact rfl)|((first|(apply kR;iterate 2 exact rfl)|(apply kQ;exact rfl));all_goals(intro hc;try simp only[hcs]at hc;try(exfalso;first|contradiction|omega))))
  apply CW.loop [9, 54, 55, 56, 57, 58, 59, 60, 61, 62, 63, 64] (fun s : Nat × List Int => s.1 ≤ R.ask.length ∧ s.2.length = R.ask.length) (fun s => [(9, .int .i64 (s.1 : Int))])
    (fun s => St w NoF [tkI p8 R a4 c4, osl (.slice a4 R.ask.length c4) 3 1 R.ask.length (iv R.ask), tkI p7 R a3 c3, odl (.slice a3 R.ask.length c3) 3 1 R.ask.length (iv s.2), osl (.slice a2 v.gaps.length c2) 3 1 v.gaps.length (iv v.gaps), tkI p5 t a1 c1, osl (.slice a1 t.ask.length c1) 3 1 t.ask.length (iv t.ask), .own p3 (.cells (v.cells ag cg).toArray 28 (0, 0)), tkI p2 t a c, rdA a (iv t.ask), rdA ag (iv v.gaps)]) (fun s => R.ask.length - s.1)
  · exact fun w' hw' => ⟨(0, R.ask), ⟨by simp, rfl⟩, ⟨rfl, trivial⟩, hw'⟩
  rintro ⟨i, l⟩ g1 ⟨hi, hl⟩
  simp only at hi hl ⊢
  by_cases hlt : i < R.ask.length
  · obtain ⟨ba, oa, rfl⟩ := hf3 (fun e => by have := congrArg List.length e; simp at this; simp [this] at hlt)
    repeat'(first|(apply kp;iterate 2 exact rfl)|apply jJ|(apply jE;exact rfl)|(apply jp;exact rfl)|(apply jc;kernel_rfl)|((first|apply kf|apply kn|apply ke|apply kx|apply kc|apply kb);iterate 2 exact rfl)|((first|apply kz|apply ky);(·exact rfl);(·repeat(first|exact iO|exact iR rfl|apply iT));iterate 2 exact rfl)|(apply kg;iterate 2 exact rfl)|(apply kG;iterate 3 exact rfl)|(apply kB;(iterate 2 exact rfl);intro _)|(apply kA;exact rfl;intro _)|(apply Go.Hb.kK;(iterate 4 exact rfl);intro _)|(apply kU;(iterate 2 exact rfl);(·repeat(first|exact sH _ _ _|apply sT));(first|exact nfL_eq rfl|exact rfl);exact rfl)|((first|apply kh|apply kl);(iterate 2 exact rfl);(first|decide|omega);exact rfl)|(apply idxX;(iterate 2 exact rfl);(iterate 2(first|omega|(dsimp only;omega)));exact rfl)|((first|(apply kR;iterate 2 exact rfl)|(apply kQ;exact rfl));all_goals(intro hc;try simp only[hcs]at hc;try(exfalso;first|contradiction|omega))))
    refine LR.store_obj (v := .int .i64 (-1)) (z := odl (.slice (some ⟨ba, oa, none⟩) R.ask.length c3) 3 1 R.ask.length (iv l)) (z' := odl (.slice (some ⟨ba, oa, none⟩) R.ask.length c3) 3 1 R.ask.length (iv (l.set i (-1)))) rfl rfl (by (repeat (first | exact sH _ _ _ | apply sT))) rfl (st_odl1 (by simp) (by omega)) (odl.dep _ _ _ _ _) ?_
    repeat'(first|(apply kp;iterate 2 exact rfl)|apply jJ|(apply jE;exact rfl)|(apply jp;exact rfl)|(apply jc;kernel_rfl)|((first|apply kf|apply kn|apply ke|apply kx|apply kc|apply kb);iterate 2 exact rfl)|((first|apply kz|apply ky);(·exact rfl);(·repeat(first|exact iO|exact iR rfl|apply iT));iterate 2 exact rfl)|(apply kg;iterate 2 exact rfl)|(apply kG;iterate 3 exact rfl)|(apply kB;(iterate 2 exact rfl);intro _)|(apply kA;exact rfl;intro _)|(apply Go.Hb.kK;(iterate 4 exact rfl);intro _)|(apply kU;(iterate 2 exact rfl);(·repeat(first|exact sH _ _ _|apply sT));(first|exact nfL_eq rfl|exact rfl);exact rfl)|((first|apply kh|apply kl);(iterate 2 exact rfl);(first|decide|omega);exact rfl)|(apply addX;(iterate 2 exact rfl);(iterate 2(first|omega|(dsimp only;omega)));exact rfl)|((first|(apply kR;iterate 2 exact rfl)|(apply kQ;exact rfl));all_goals(intro hc;try simp only[hcs]at hc;try(exfalso;first|contradiction|omega))))
    refine At.again (i + 1, l.set i (-1)) ⟨by simp only; omega, by simp only [List.length_set]; exact hl⟩ ?_ ⟨rfl, trivial⟩ (fun w' hw' => hw') (by simp only; omega)
    (repeat (first | exact Out.refl _ _ | exact Out.mix | (apply Out.upd; (· exact rfl)) | (apply Out.updL; (· exact rfl)) | (apply Out.mixs; (· exact rfl))))
  · have hie : i = R.ask.length := by omega
    repeat'(first|(apply kp;iterate 2 exact rfl)|apply jJ|(apply jE;exact rfl)|(apply jp;exact rfl)|(apply jc;kernel_rfl)|((first|apply kf|apply kn|apply ke|apply kx|apply kc|apply kb);iterate 2 exact rfl)|((first|apply kz|apply ky);(·exact rfl);(·repeat(first|exact iO|exact iR rfl|apply iT));iterate 2 exact rfl)|(apply kg;iterate 2 exact rfl)|(apply kG;iterate 3 exact rfl)|(apply kB;(iterate 2 exact rfl);intro _)|(apply kA;exact rfl;intro _)|(apply Go.Hb.kK;(iterate 4 exact rfl);intro _)|(apply kU;(iterate 2 exact rfl);(·repeat(first|exact sH _ _ _|apply sT));(first|exact nfL_eq rfl|exact rfl);exact rfl)|((first|apply kh|apply kl);(iterate 2 exact rfl);(first|decide|omega);exact rfl)|(apply kq; (· exact rfl); (· intro w1 h1; first | exact CallsTo.q (t20 w1) h1 | exact CallsTo.q (t16 t a1 c1 w1 (h1.rd_of_own (by (repeat (first | exact mH _ _ | apply mT)))) (by omega)) h1 | exact CallsTo.q (t17 t a c w1 (h1.rd_of (by (repeat (first | exact mH _ _ | apply mT)))) hm) h1 | (have hq := CallsTo.q (t18 R R a3 a4 c3 c4 w1 (h1.rd_of_odl (by (repeat (first | exact mH _ _ | apply mT)))) (h1.rd_of_own (by (repeat (first | exact mH _ _ | apply mT)))) (by omega)) h1; rw [decide_eq_true rfl] at hq; exact hq) | (have hq := CallsTo.q (t18 t t a1 a c1 c w1 (h1.rd_of_own (by (repeat (first | exact mH _ _ | apply mT)))) (h1.rd_of (by (repeat (first | exact mH _ _ | apply mT)))) hm) h1; rw [decide_eq_true rfl] at hq; exact hq) | (have hq := CallsTo.q (t19 a2 ag c2 cg v.gaps v.gaps w1 (h1.rd_of_own (by (repeat (first | exact mH _ _ | apply mT)))) (h1.rd_of (by (repeat (first | exact mH _ _ | apply mT)))) hmg) h1; rw [decide_eq_true rfl] at hq; exact hq)))|((first|(apply kR;iterate 2 exact rfl)|(apply kQ;exact rfl));all_goals(intro hc;try simp only[hcs]at hc;try(exfalso;first|contradiction|omega))))
    (apply ret1; (· exact rfl); intro w' hS)
    exact ⟨rfl, hS.toKeep⟩
end Go.Proofs.Ythmmmbphknoagaa

namespace Go.Proofs.Ythmmmbphknoagaa
open Go.Hb Go.ChangeShapes Go.WideShapes
attribute [local irreducible] LR CW At Ev thn blk finK noG again CallsTo DW QL dnext
set_option linter.unusedSimpArgs false
set_option linter.unusedVariables false

set_option maxHeartbeats 1000000 in
set_option maxRecDepth 100000 in
theorem tokenVisits_lifted (os : Os) (started : os.Started) (H : Type) (enc : TypeId × Value → H) :
    ReturnsInHanded {} Try.checked os 3 .any (Rows.tokenVisitsSpec.pre6 enc Try.prog Try.f3 Rows.tokenVisitsRow.domain false) (Rows.tokenVisitsSpec.post enc Try.prog Try.f3 false true false false) := by
  refine returnsInHanded_of_change_sized (C := Try.checked) (s := Rows.tokenVisitsSpec) own_knob started (by kernel_rfl) Try.func3
    (ChangeSpec.witness6 (enc := enc) (C := Try.checked) false ⟨#[], #[.agg #[.int .i64 0, .int .i64 0, .int .i64 0, .int .i64 0, .int .i64 0, .int .i64 0, .int .i64 0, .int .i64 0, .slice none 0 0], .agg #[.int .i64 0, .int .i64 0, .slice none 0 0]], []⟩ 12 (by kernel_rfl) (by kernel_rfl) (by kernel_rfl) (by kernel_rfl)) ?_
  intro W base args ds gs before hval hW hcnd hwt _
  have hW' := hW
  obtain ⟨p, q, hA0, hV, rfl, hfz, hnd⟩ := hW'
  obtain ⟨rfl, rfl⟩ := trodVars_none hV
  have hA : DataW.TrodAll enc Try.prog W 0 (fun _ => true) true Try.f3.params.toList args.toList ds p := hA0
  rw [Try.params3] at hA
  obtain ⟨v0, vs0, d0, ds0, p0, q0, hargs, rfl, rfl, h0, r0⟩ := trodAll_cons hA
  obtain ⟨v1, vs1, d1, ds1, p1, q1, rfl, rfl, rfl, h1, r1⟩ := trodAll_cons r0
  obtain ⟨rfl, rfl, rfl⟩ := trodAll_nil r1
  obtain rfl : args = #[v0, v1] := by cases args; simp_all
  obtain ⟨m0, a0, c0, hcs0, hr0, hi0, hz0, hc0, hm0⟩ := opn_arg (i := 0) opn_tok h0 hwt rfl rfl
  obtain ⟨cs0, rfl, _⟩ := okWide_struct Try.underlying26 (hval 0 26 v0 rfl rfl)
  obtain rfl : cs0 = (m0.cells a0 c0).toArray := Array.toList_inj.1 hcs0
  obtain ⟨m1, a1, c1, hcs1, hr1, hi1, hz1, hc1, hm1⟩ := opn_arg (i := 1) opn_at h1 hwt rfl rfl
  obtain ⟨cs1, rfl, _⟩ := okWide_struct Try.underlying28 (hval 1 28 v1 rfl rfl)
  obtain rfl : cs1 = (m1.cells a1 c1).toArray := Array.toList_inj.1 hcs1
  refine (t3 m0 a0 c0 m1 a1 c1 W hr0 hz0 hm0 hr1 hz1 hm1).calls fun v W' ⟨hv, hg⟩ => ⟨v, rfl, ?_⟩
  subst hv
  exact law_post kids full_slices hW hg rfl rfl (by kernel_rfl) Try.underlying4 (by rw [Try.params3]; decide +kernel)

theorem tokenVisits_holds : Rows.TokenVisitsSaid :=
  OpenClaim.holds_of_wide 3 Try.f3 rfl rfl rfl rfl rfl rfl rfl ⟨rfl, rfl, rfl, rfl, rfl⟩ rfl rfl rfl rfl rfl (by kernel_rfl) Try.func3 (by kernel_rfl)
    (of_decide_eq_true (by kernel_rfl)) (by unfold Func.isWrapper; first | (rw [if_pos (by decide +kernel)]; kernel_rfl) | (rw [if_neg (by decide +kernel)]; exact ⟨rfl, rfl⟩))
    (fun os started H enc _ => tokenVisits_lifted os started H enc)
end Go.Proofs.Ythmmmbphknoagaa
