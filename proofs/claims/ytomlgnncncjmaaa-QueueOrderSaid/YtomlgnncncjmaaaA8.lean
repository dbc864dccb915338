/-
  The readers of the layer word and of its reference: New, Octets; many numbers.
-/
import Derived.Test.YtomlgnncncjmaaaA7
-- all by hand
namespace Go.Proofs.Ytomlgnncncjmaaa
open Go.Hb
attribute [local irreducible] LR CW At Ev thn blk finK noG again CallsTo
set_option linter.unusedSimpArgs false
set_option linter.unusedVariables false
set_option maxRecDepth 100000

theorem newB_rr {w0 w1 : World} {F : Nat → Prop} {L : List Asrt} {a : Option Addr} {c : Nat} {l : List Int} (h : St w0 F L w1) {w2 : World} (hn : NewSl w1 w2 (.slice a l.length c) 5 1 l.length (bv l)) : St w0 F (rr2 a l :: L) w2 := by
  refine h.push hn.grew (ownsRow_rd hn.own) (fun k hk => ?_) (rr2_dep _ _)
  obtain ⟨hne, ad, rfl, rfl⟩ := hk
  exact hn.own.lt _ rfl

theorem osl_rr {w0 w : World} {F : Nat → Prop} {R : List Asrt} {a : Option Addr} {c : Nat} {l : List Int} (h : St w0 F (osl (.slice a l.length c) 5 1 l.length (bv l) :: R) w) : St w0 F (rr2 a l :: R) w :=
  h.turn (Sel.head _ _ _) rfl (St.refl w _) (ownsRow_rd (h.holds _ (List.Mem.head _))) (fun k hk => .inl (St.osl_foot hk)) (rr2_dep _ _)
/-- New: a reader of its own. -/
theorem c65 (a : Option Addr) (ca : Nat) (l : List Int) (w : World) (hr : Rd w a (bv l)) (hz : a = none → ca = 0) (hm : l.length ≤ 140737488355328) :
    CallsTo Try.prog 65 [.slice a l.length ca] w fun v w' => ∃ br a' c', v = .pointer (some ⟨br, 0, none⟩) ∧ New1 (rrA 120 [.bool true] br a' c' l) w w' := by
  refine go_in (n := 7) (St.rd1 hr) Try.func65 rfl rfl ?_
  repeat' (
    first
    | (
      first
      | (apply kp; iterate 2 exact rfl)
      | apply ja | apply jb | apply jg | apply jj | (apply je; exact rfl) | (apply jf; exact rfl) | apply jd | apply jh | apply ji | (apply jc; kernel_rfl) | apply jk | apply jl | apply jm | apply jn | apply jo | (apply jp; exact rfl) | apply jq | apply jr | apply js | apply jt | apply ju | apply jv | apply jw | apply kN | apply kM
      | (apply kf; iterate 2 exact rfl)
      | (apply ko; (· exact rfl); (· repeat (first | exact mH _ _ | apply mT)); iterate 2 exact rfl)
      | (apply ka; (· exact rfl); (· repeat (first | exact mH _ _ | apply mT)); iterate 2 exact rfl)
      | (apply kr; (· exact rfl); (· repeat (first | exact mH _ _ | apply mT)); iterate 3 exact rfl)
      | (apply ks; (· exact rfl); (· repeat (first | exact mH _ _ | apply mT)); iterate 2 exact rfl)
      | (apply kn; iterate 2 exact rfl)
      | (apply ke; iterate 2 exact rfl)
      | (apply kx; iterate 2 exact rfl)
      | (apply kc; iterate 2 exact rfl)
      | (apply kb; iterate 2 exact rfl)
      | (apply kg; iterate 2 exact rfl)
      | (apply kG; iterate 3 exact rfl)
      | (apply kB; (iterate 2 exact rfl); intro _)
      | (apply kA; exact rfl; intro _)
      | (apply kL; (iterate 3 exact rfl); (· repeat (first | exact BS.nil _ | (apply BS.int; exact rfl) | (apply BS.ptr; exact rfl) | (apply BS.slice; exact rfl) | (apply BS.agg; iterate 2 exact rfl))); intro _)
      | (apply kT; (iterate 2 exact rfl); (· repeat (first | exact sH _ _ _ | apply sT)); iterate 2 exact rfl)
      | (apply kS; (iterate 2 exact rfl); (· repeat (first | exact sH _ _ _ | apply sT)); exact rfl)
      | (apply kh; (iterate 2 exact rfl); (first | decide | omega); exact rfl)
      | (apply kl; (iterate 2 exact rfl); (first | decide | omega); exact rfl)
      )
    | ((first | (apply kR; (· exact rfl); (· exact rfl)) | (apply kQ; (· exact rfl))); all_goals (intro hc; try simp only [decide_eq_true_eq, decide_eq_false_iff_not, Bool.not_eq_true', Bool.not_eq_false', Bool.not_eq_true, Bool.not_eq_false, Bool.not_true, Bool.not_false, Int.not_lt, Int.not_le, List.cons.injEq, and_true, beq_iff_eq, beq_eq_false_iff_ne] at hc; try (exfalso; first | contradiction | omega)))
    )
  apply LR.call
  · exact rfl
  intro w1 h1
  refine (c86 a ca l w1 (h1.rd_of (List.Mem.head _)) hz hm).mono ?_
  rintro v w2 ⟨a2, c2, rfl, hn⟩
  refine LR.back (newB_rr h1 hn) ?_
  have hnc := ownsRow_cap hn.own
  have hns := hn.some_of
  repeat' (
    first
    | (
      first
      | (apply kp; iterate 2 exact rfl)
      | apply ja | apply jb | apply jg | apply jj | (apply je; exact rfl) | (apply jf; exact rfl) | apply jd | apply jh | apply ji | (apply jc; kernel_rfl) | apply jk | apply jl | apply jm | apply jn | apply jo | (apply jp; exact rfl) | apply jq | apply jr | apply js | apply jt | apply ju | apply jv | apply jw | apply kN | apply kM
      | (apply kf; iterate 2 exact rfl)
      | (apply ko; (· exact rfl); (· repeat (first | exact mH _ _ | apply mT)); iterate 2 exact rfl)
      | (apply ka; (· exact rfl); (· repeat (first | exact mH _ _ | apply mT)); iterate 2 exact rfl)
      | (apply kr; (· exact rfl); (· repeat (first | exact mH _ _ | apply mT)); iterate 3 exact rfl)
      | (apply ks; (· exact rfl); (· repeat (first | exact mH _ _ | apply mT)); iterate 2 exact rfl)
      | (apply kn; iterate 2 exact rfl)
      | (apply ke; iterate 2 exact rfl)
      | (apply kx; iterate 2 exact rfl)
      | (apply kc; iterate 2 exact rfl)
      | (apply kb; iterate 2 exact rfl)
      | (apply kg; iterate 2 exact rfl)
      | (apply kG; iterate 3 exact rfl)
      | (apply kB; (iterate 2 exact rfl); intro _)
      | (apply kA; exact rfl; intro _)
      | (apply kL; (iterate 3 exact rfl); (· repeat (first | exact BS.nil _ | (apply BS.int; exact rfl) | (apply BS.ptr; exact rfl) | (apply BS.slice; exact rfl) | (apply BS.agg; iterate 2 exact rfl))); intro _)
      | (apply kT; (iterate 2 exact rfl); (· repeat (first | exact sH _ _ _ | apply sT)); iterate 2 exact rfl)
      | (apply kS; (iterate 2 exact rfl); (· repeat (first | exact sH _ _ _ | apply sT)); exact rfl)
      | (apply kh; (iterate 2 exact rfl); (first | decide | omega); exact rfl)
      | (apply kl; (iterate 2 exact rfl); (first | decide | omega); exact rfl)
      )
    | ((first | (apply kR; (· exact rfl); (· exact rfl)) | (apply kQ; (· exact rfl))); all_goals (intro hc; try simp only [decide_eq_true_eq, decide_eq_false_iff_not, Bool.not_eq_true', Bool.not_eq_false', Bool.not_eq_true, Bool.not_eq_false, Bool.not_true, Bool.not_false, Int.not_lt, Int.not_le, List.cons.injEq, and_true, beq_iff_eq, beq_eq_false_iff_ne] at hc; try (exfalso; first | contradiction | omega)))
    )
  (apply ret1; (· exact rfl); intro w' hS)
  exact ⟨_, a2, c2, rfl, (rr_shut (hS.cast (by rfl)) hnc (fun e => (hns e).2)).new1 rfl⟩

theorem c69 (a : Option Addr) (ca : Nat) (l : List Int) (w : World) (hr : Rd w a (bv l)) (hz : a = none → ca = 0) (hm : l.length ≤ 140737488355328) :
    CallsTo Try.prog 69 [.slice a l.length ca] w fun v w' => ∃ br a' c', v = .pointer (some ⟨br, 0, none⟩) ∧ New1 (rrA 125 [] br a' c' l) w w' := by
  refine go_in (n := 16) (St.rd1 hr) Try.func69 rfl rfl ?_
  repeat' (
    first
    | (
      first
      | (apply kp; iterate 2 exact rfl)
      | apply ja | apply jb | apply jg | apply jj | (apply je; exact rfl) | (apply jf; exact rfl) | apply jd | apply jh | apply ji | (apply jc; kernel_rfl) | apply jk | apply jl | apply jm | apply jn | apply jo | (apply jp; exact rfl) | apply jq | apply jr | apply js | apply jt | apply ju | apply jv | apply jw | apply kN | apply kM
      | (apply kf; iterate 2 exact rfl)
      | (apply ko; (· exact rfl); (· repeat (first | exact mH _ _ | apply mT)); iterate 2 exact rfl)
      | (apply ka; (· exact rfl); (· repeat (first | exact mH _ _ | apply mT)); iterate 2 exact rfl)
      | (apply kr; (· exact rfl); (· repeat (first | exact mH _ _ | apply mT)); iterate 3 exact rfl)
      | (apply ks; (· exact rfl); (· repeat (first | exact mH _ _ | apply mT)); iterate 2 exact rfl)
      | (apply kn; iterate 2 exact rfl)
      | (apply ke; iterate 2 exact rfl)
      | (apply kx; iterate 2 exact rfl)
      | (apply kc; iterate 2 exact rfl)
      | (apply kb; iterate 2 exact rfl)
      | (apply kg; iterate 2 exact rfl)
      | (apply kG; iterate 3 exact rfl)
      | (apply kB; (iterate 2 exact rfl); intro _)
      | (apply kA; exact rfl; intro _)
      | (apply kL; (iterate 3 exact rfl); (· repeat (first | exact BS.nil _ | (apply BS.int; exact rfl) | (apply BS.ptr; exact rfl) | (apply BS.slice; exact rfl) | (apply BS.agg; iterate 2 exact rfl))); intro _)
      | (apply kT; (iterate 2 exact rfl); (· repeat (first | exact sH _ _ _ | apply sT)); iterate 2 exact rfl)
      | (apply kS; (iterate 2 exact rfl); (· repeat (first | exact sH _ _ _ | apply sT)); exact rfl)
      | (apply kh; (iterate 2 exact rfl); (first | decide | omega); exact rfl)
      | (apply kl; (iterate 2 exact rfl); (first | decide | omega); exact rfl)
      )
    | (refine LR.append_nil (news := bv l) rfl rfl (fun w' hw' => hw'.rd_of (List.Mem.tail _ (List.Mem.head _))) (fun hx => ⟨hr.none_len hx, hz hx⟩) (by simp) (bv_one l) (by omega) (by unfold maxLen; omega) rfl ?_; intro a2 c2)
    | ((first | (apply kR; (· exact rfl); (· exact rfl)) | (apply kQ; (· exact rfl))); all_goals (intro hc; try simp only [decide_eq_true_eq, decide_eq_false_iff_not, Bool.not_eq_true', Bool.not_eq_false', Bool.not_eq_true, Bool.not_eq_false, Bool.not_true, Bool.not_false, Int.not_lt, Int.not_le, List.cons.injEq, and_true, beq_iff_eq, beq_eq_false_iff_ne] at hc; try (exfalso; first | contradiction | omega)))
    )
  (apply ret1; (· exact rfl); intro w' hS)
  have hnc := ownsRow_cap (hS.holds _ (List.Mem.head _) : World.ownsRow _ _ _ _ _ _ _)
  have hns := ownsRow_some (hS.holds _ (List.Mem.head _) : World.ownsRow _ _ _ _ _ _ _)
  exact ⟨_, a2, c2, rfl, (rr_shut ((osl_rr hS).swap.cast (by rfl)) hnc (fun e => (hns e).2)).new1 rfl⟩

/-- Bytes behind how many they are, at most so many: the bytes, what is wrong, what is left. -/
def octs (most : Int) (l : List Int) : List Int × Int × List Int :=
  if (dec l).2.2 ≠ 0 then ([], (dec l).2.2, l)
  else if most < ((dec l).1 : Int) then ([], 5, l)
  else if ((l.length - (dec l).2.1 : Nat) : Int) < ((dec l).1 : Int) then ([], 3, l)
  else ((l.drop (dec l).2.1).take (dec l).1, 0, l.drop ((dec l).2.1 + (dec l).1))
def bsl (a : Option Addr) (c : Nat) (l : List Int) : Asrt := osl (.slice a l.length c) 5 1 l.length (bv l)

theorem rd_mid {w : World} {a : Option Addr} {c n k : Nat} {l : List Int} (h : Rd w a (bv l)) (hc : l.length ≤ c) : Rd w (subA a c n 1) (bv ((l.drop n).take k)) := by
  have := (h.drop (l := n) (sz := 1) (c := c) (fun e => by simp; omega)).take k
  simpa using this
theorem nilB {w0 w : World} {F : Nat → Prop} {L : List Asrt} (h : St w0 F L w) : St w0 F (bsl none 0 [] :: L) w :=
  h.push (Grew.refl w) (World.ownsRow_nil w 0 5 1) (fun k hk => by simp [bsl, osl, Asrt.foot, Value.ownBlock] at hk) (osl.dep _ _ _ _ _)

theorem octs_ok {most : Int} {l : List Int} (h1 : (dec l).2.2 = 0) (h2 : ((dec l).1 : Int) ≤ most) (h3 : ((dec l).1 : Int) ≤ (l.length : Int) - ((dec l).2.1 : Int)) : octs most l = ((l.drop (dec l).2.1).take (dec l).1, 0, l.drop ((dec l).2.1 + (dec l).1)) := by
  unfold octs; rw [if_neg (by simpa using h1), if_neg (by omega), if_neg (by omega)]
theorem octs_len {l : List Int} (h3 : ((dec l).1 : Int) ≤ (l.length : Int) - ((dec l).2.1 : Int)) : (((dec l).2.1 : Int) + ((dec l).1 : Int)).toNat - (((dec l).2.1 : Nat) : Int).toNat = ((l.drop (dec l).2.1).take (dec l).1).length := by
  simp; omega
theorem rr_drop2 {T : Nat} {ex : List Value} {w0 w : World} {F : Nat → Prop} {R : List Asrt} {br : Nat} {a : Option Addr} {c n : Nat} {l : List Int} {cs : List Value}
    (h : St w0 F (.own br (.cells cs.toArray T (0, 0)) :: rr2 a l :: R) w) (hcs : cs = .slice (subA a c n 1) (l.length - n) (c - n) :: ex) (hc : l.length ≤ c) (hz : a = none → c = 0) (hn : n ≤ l.length) :
    St w0 F (rrA T ex br (subA a c n 1) (c - n) (l.drop n) :: R) w := by
  subst hcs
  refine rr_shut ((rr_drop (n := n) h hc).cast ?_) (by simp; omega) (subA_none hz)
  simp [rr1]

theorem c67 (br : Nat) (a : Option Addr) (c : Nat) (l : List Int) (most : Int) (w : World) (h : rrP 120 [.bool true] br a c l w) (hb : Byt l) (hm : l.length ≤ 140737488355328) :
    CallsTo Try.prog 67 [.pointer (some ⟨br, 0, none⟩), .int .i64 most] w fun v w' => ∃ a' c' a2 c2, v = .tuple [.slice a2 (octs most l).1.length c2, .int .i64 (octs most l).2.1].toArray ∧
      St w (rrF br a l) [rrA 120 [.bool true] br a' c' (octs most l).2.2, bsl a2 c2 (octs most l).1] w' := by
  have hlc := h.2.2.1
  have hz := h.2.2.2.1
  have hn := dec_le l
  have hbd := decF_bound 8 0 0 l
  refine go_in (n := 58) (rr_start h) Try.func67 rfl rfl ?_
  by_cases h1 : (dec l).2.2 = 0
  · have hv : (dec l).1 ≤ 9007199254740991 := (hbd.2 h1).2
    repeat' (
      first
      | (
        first
        | (apply kp; iterate 2 exact rfl)
        | apply ja | apply jb | apply jg | apply jj | (apply je; exact rfl) | (apply jf; exact rfl) | apply jd | apply jh | apply ji | (apply jc; kernel_rfl) | apply jk | apply jl | apply jm | apply jn | apply jo | (apply jp; exact rfl) | apply jq | apply jr | apply js | apply jt | apply ju | apply jv | apply jw | apply kN | apply kM
        | (apply kf; iterate 2 exact rfl)
        | (apply ko; (· exact rfl); (· repeat (first | exact mH _ _ | apply mT)); iterate 2 exact rfl)
        | (apply ka; (· exact rfl); (· repeat (first | exact mH _ _ | apply mT)); iterate 2 exact rfl)
        | (apply kr; (· exact rfl); (· repeat (first | exact mH _ _ | apply mT)); iterate 3 exact rfl)
        | (apply ks; (· exact rfl); (· repeat (first | exact mH _ _ | apply mT)); iterate 2 exact rfl)
        | (apply kn; iterate 2 exact rfl)
        | (apply ke; iterate 2 exact rfl)
        | (apply kx; iterate 2 exact rfl)
        | (apply kc; iterate 2 exact rfl)
        | (apply kb; iterate 2 exact rfl)
        | (apply kg; iterate 2 exact rfl)
        | (apply kG; iterate 3 exact rfl)
        | (apply kB; (iterate 2 exact rfl); intro _)
        | (apply kA; exact rfl; intro _)
        | (apply kL; (iterate 3 exact rfl); (· repeat (first | exact BS.nil _ | (apply BS.int; exact rfl) | (apply BS.ptr; exact rfl) | (apply BS.slice; exact rfl) | (apply BS.agg; iterate 2 exact rfl))); intro _)
        | (apply kT; (iterate 2 exact rfl); (· repeat (first | exact sH _ _ _ | apply sT)); iterate 2 exact rfl)
        | (apply kS; (iterate 2 exact rfl); (· repeat (first | exact sH _ _ _ | apply sT)); exact rfl)
        | (apply kh; (iterate 2 exact rfl); (first | decide | omega); exact rfl)
        | (apply kl; (iterate 2 exact rfl); (first | decide | omega); exact rfl)
        )
      | (apply LR.qcall; (· exact rfl); (· intro w1 h1; first | exact CallsTo.q (c99 br (.slice a l.length c) w1 (h1.own_at (List.Mem.head _))) h1 | exact CallsTo.q (c100 _ _ _ _ w1 (rr_hold h1 hlc hz) hb (by omega)) h1))
      | (apply LR.ev; (· apply Ev.slice_lohi; (· exact rfl); (· exact rfl); (· exact rfl); (· first | omega | (dsimp only; omega)); (· first | omega | (dsimp only; omega)); (· first | omega | (dsimp only; omega))); (· exact rfl))
      | (apply LR.ev; (· apply Ev.slice_lo; (· exact rfl); (· exact rfl); (· first | omega | (dsimp only; omega)); (· first | omega | (dsimp only; omega))); (· exact rfl))
      | (apply LR.ev; (· apply Ev.add; (· exact rfl); (· exact rfl); (· first | omega | (dsimp only; omega)); (· first | omega | (dsimp only; omega))); (· exact rfl))
      | (apply LR.ev; (· apply Ev.sub; (· exact rfl); (· exact rfl); (· first | omega | (dsimp only; omega)); (· first | omega | (dsimp only; omega))); (· exact rfl))
      | ((first | (apply kR; (· exact rfl); (· exact rfl)) | (apply kQ; (· exact rfl))); all_goals (intro hc; try simp only [decide_eq_true_eq, decide_eq_false_iff_not, Bool.not_eq_true', Bool.not_eq_false', Bool.not_eq_true, Bool.not_eq_false, Bool.not_true, Bool.not_false, Int.not_lt, Int.not_le, List.cons.injEq, and_true, beq_iff_eq, beq_eq_false_iff_ne] at hc; try (exfalso; first | contradiction | omega)))
      )
    · (apply ret2; (· exact rfl); intro w' hS)
      have e : octs most l = ([], 5, l) := by unfold octs; rw [if_neg (by simpa using h1), if_pos (by assumption)]
      rw [e]
      exact ⟨a, c, none, 0, rfl, (nilB (rr_shut hS hlc hz)).swap⟩
    · (apply ret2; (· exact rfl); intro w' hS)
      have e : octs most l = ([], 3, l) := by unfold octs; rw [if_neg (by simpa using h1), if_neg (by omega), if_pos (by omega)]
      rw [e]
      exact ⟨a, c, none, 0, rfl, (nilB (rr_shut hS hlc hz)).swap⟩
    · rw [octs_len hc, octs_ok h1 (by assumption) hc]
      apply LR.call
      · exact rfl
      intro w1 h2
      refine (c86 _ _ ((l.drop (dec l).2.1).take (dec l).1) w1 (rd_mid (h2.holds _ (List.Mem.tail _ (List.Mem.head _))) hlc) (subA_none hz) (by simp; omega)).mono ?_
      rintro v w2 ⟨a2, c2, rfl, hnew⟩
      refine LR.back (h2.newSl hnew) ?_
      repeat' (
        first
        | (
          first
          | (apply kp; iterate 2 exact rfl)
          | apply ja | apply jb | apply jg | apply jj | (apply je; exact rfl) | (apply jf; exact rfl) | apply jd | apply jh | apply ji | (apply jc; kernel_rfl) | apply jk | apply jl | apply jm | apply jn | apply jo | (apply jp; exact rfl) | apply jq | apply jr | apply js | apply jt | apply ju | apply jv | apply jw | apply kN | apply kM
          | (apply kf; iterate 2 exact rfl)
          | (apply ko; (· exact rfl); (· repeat (first | exact mH _ _ | apply mT)); iterate 2 exact rfl)
          | (apply ka; (· exact rfl); (· repeat (first | exact mH _ _ | apply mT)); iterate 2 exact rfl)
          | (apply kr; (· exact rfl); (· repeat (first | exact mH _ _ | apply mT)); iterate 3 exact rfl)
          | (apply ks; (· exact rfl); (· repeat (first | exact mH _ _ | apply mT)); iterate 2 exact rfl)
          | (apply kn; iterate 2 exact rfl)
          | (apply ke; iterate 2 exact rfl)
          | (apply kx; iterate 2 exact rfl)
          | (apply kc; iterate 2 exact rfl)
          | (apply kb; iterate 2 exact rfl)
          | (apply kg; iterate 2 exact rfl)
          | (apply kG; iterate 3 exact rfl)
          | (apply kB; (iterate 2 exact rfl); intro _)
          | (apply kA; exact rfl; intro _)
          | (apply kL; (iterate 3 exact rfl); (· repeat (first | exact BS.nil _ | (apply BS.int; exact rfl) | (apply BS.ptr; exact rfl) | (apply BS.slice; exact rfl) | (apply BS.agg; iterate 2 exact rfl))); intro _)
          | (apply kT; (iterate 2 exact rfl); (· repeat (first | exact sH _ _ _ | apply sT)); iterate 2 exact rfl)
          | (apply kS; (iterate 2 exact rfl); (· repeat (first | exact sH _ _ _ | apply sT)); exact rfl)
          | (apply kh; (iterate 2 exact rfl); (first | decide | omega); exact rfl)
          | (apply kl; (iterate 2 exact rfl); (first | decide | omega); exact rfl)
          )
        | (apply LR.ev; (· apply Ev.slice_lo; (· exact rfl); (· exact rfl); (· first | omega | (dsimp only; omega)); (· first | omega | (dsimp only; omega))); (· exact rfl))
        | (apply LR.ev; (· apply Ev.add; (· exact rfl); (· exact rfl); (· first | omega | (dsimp only; omega)); (· first | omega | (dsimp only; omega))); (· exact rfl))
        | ((first | (apply kR; (· exact rfl); (· exact rfl)) | (apply kQ; (· exact rfl))); all_goals (intro hc; try simp only [decide_eq_true_eq, decide_eq_false_iff_not, Bool.not_eq_true', Bool.not_eq_false', Bool.not_eq_true, Bool.not_eq_false, Bool.not_true, Bool.not_false, Int.not_lt, Int.not_le, List.cons.injEq, and_true, beq_iff_eq, beq_eq_false_iff_ne] at hc; try (exfalso; first | contradiction | omega)))
        )
      (apply ret2; (· exact rfl); intro w' hS)
      have e3 : (((dec l).2.1 : Int) + ((dec l).1 : Int)).toNat = (dec l).2.1 + (dec l).1 := by omega
      rw [e3] at hS
      refine ⟨subA a c ((dec l).2.1 + (dec l).1) 1, c - ((dec l).2.1 + (dec l).1), a2, c2, rfl, ?_⟩
      refine ((rr_drop2 (n := (dec l).2.1 + (dec l).1) (ex := [.bool true]) (R := [_]) (St.rot hS) ?_ hlc hz (by omega)))
      simp [splice]
  · repeat' (
      first
      | (
        first
        | (apply kp; iterate 2 exact rfl)
        | apply ja | apply jb | apply jg | apply jj | (apply je; exact rfl) | (apply jf; exact rfl) | apply jd | apply jh | apply ji | (apply jc; kernel_rfl) | apply jk | apply jl | apply jm | apply jn | apply jo | (apply jp; exact rfl) | apply jq | apply jr | apply js | apply jt | apply ju | apply jv | apply jw | apply kN | apply kM
        | (apply kf; iterate 2 exact rfl)
        | (apply ko; (· exact rfl); (· repeat (first | exact mH _ _ | apply mT)); iterate 2 exact rfl)
        | (apply ka; (· exact rfl); (· repeat (first | exact mH _ _ | apply mT)); iterate 2 exact rfl)
        | (apply kr; (· exact rfl); (· repeat (first | exact mH _ _ | apply mT)); iterate 3 exact rfl)
        | (apply ks; (· exact rfl); (· repeat (first | exact mH _ _ | apply mT)); iterate 2 exact rfl)
        | (apply kn; iterate 2 exact rfl)
        | (apply ke; iterate 2 exact rfl)
        | (apply kx; iterate 2 exact rfl)
        | (apply kc; iterate 2 exact rfl)
        | (apply kb; iterate 2 exact rfl)
        | (apply kg; iterate 2 exact rfl)
        | (apply kG; iterate 3 exact rfl)
        | (apply kB; (iterate 2 exact rfl); intro _)
        | (apply kA; exact rfl; intro _)
        | (apply kL; (iterate 3 exact rfl); (· repeat (first | exact BS.nil _ | (apply BS.int; exact rfl) | (apply BS.ptr; exact rfl) | (apply BS.slice; exact rfl) | (apply BS.agg; iterate 2 exact rfl))); intro _)
        | (apply kT; (iterate 2 exact rfl); (· repeat (first | exact sH _ _ _ | apply sT)); iterate 2 exact rfl)
        | (apply kS; (iterate 2 exact rfl); (· repeat (first | exact sH _ _ _ | apply sT)); exact rfl)
        | (apply kh; (iterate 2 exact rfl); (first | decide | omega); exact rfl)
        | (apply kl; (iterate 2 exact rfl); (first | decide | omega); exact rfl)
        )
      | (apply LR.qcall; (· exact rfl); (· intro w1 h1; first | exact CallsTo.q (c99 br (.slice a l.length c) w1 (h1.own_at (List.Mem.head _))) h1 | exact CallsTo.q (c100 _ _ _ _ w1 (rr_hold h1 hlc hz) hb (by omega)) h1))
      | ((first | (apply kR; (· exact rfl); (· exact rfl)) | (apply kQ; (· exact rfl))); all_goals (intro hc; try simp only [decide_eq_true_eq, decide_eq_false_iff_not, Bool.not_eq_true', Bool.not_eq_false', Bool.not_eq_true, Bool.not_eq_false, Bool.not_true, Bool.not_false, Int.not_lt, Int.not_le, List.cons.injEq, and_true, beq_iff_eq, beq_eq_false_iff_ne] at hc; try (exfalso; first | contradiction | omega)))
      )
    (apply ret2; (· exact rfl); intro w' hS)
    have e : octs most l = ([], (dec l).2.2, l) := by unfold octs; rw [if_pos h1]
    rw [e]
    exact ⟨a, c, none, 0, rfl, (nilB (rr_shut hS hlc hz)).swap⟩

theorem c71 (br : Nat) (a : Option Addr) (c : Nat) (l : List Int) (most : Int) (w : World) (h : rrP 125 [] br a c l w) (hb : Byt l) (hm : l.length ≤ 140737488355328) :
    CallsTo Try.prog 71 [.pointer (some ⟨br, 0, none⟩), .int .i64 most] w fun v w' => ∃ a' c' a2 c2, v = .tuple [.slice a2 (octs most l).1.length c2, .int .i64 (octs most l).2.1].toArray ∧
      St w (rrF br a l) [rrA 125 [] br a' c' (octs most l).2.2, bsl a2 c2 (octs most l).1] w' := by
  have hlc := h.2.2.1
  have hz := h.2.2.2.1
  have hn := dec_le l
  have hbd := decF_bound 8 0 0 l
  refine go_in (n := 54) (rr_start h) Try.func71 rfl rfl ?_
  by_cases h1 : (dec l).2.2 = 0
  · have hv : (dec l).1 ≤ 9007199254740991 := (hbd.2 h1).2
    repeat' (
      first
      | (
        first
        | (apply kp; iterate 2 exact rfl)
        | apply ja | apply jb | apply jg | apply jj | (apply je; exact rfl) | (apply jf; exact rfl) | apply jd | apply jh | apply ji | (apply jc; kernel_rfl) | apply jk | apply jl | apply jm | apply jn | apply jo | (apply jp; exact rfl) | apply jq | apply jr | apply js | apply jt | apply ju | apply jv | apply jw | apply kN | apply kM
        | (apply kf; iterate 2 exact rfl)
        | (apply ko; (· exact rfl); (· repeat (first | exact mH _ _ | apply mT)); iterate 2 exact rfl)
        | (apply ka; (· exact rfl); (· repeat (first | exact mH _ _ | apply mT)); iterate 2 exact rfl)
        | (apply kr; (· exact rfl); (· repeat (first | exact mH _ _ | apply mT)); iterate 3 exact rfl)
        | (apply ks; (· exact rfl); (· repeat (first | exact mH _ _ | apply mT)); iterate 2 exact rfl)
        | (apply kn; iterate 2 exact rfl)
        | (apply ke; iterate 2 exact rfl)
        | (apply kx; iterate 2 exact rfl)
        | (apply kc; iterate 2 exact rfl)
        | (apply kb; iterate 2 exact rfl)
        | (apply kg; iterate 2 exact rfl)
        | (apply kG; iterate 3 exact rfl)
        | (apply kB; (iterate 2 exact rfl); intro _)
        | (apply kA; exact rfl; intro _)
        | (apply kL; (iterate 3 exact rfl); (· repeat (first | exact BS.nil _ | (apply BS.int; exact rfl) | (apply BS.ptr; exact rfl) | (apply BS.slice; exact rfl) | (apply BS.agg; iterate 2 exact rfl))); intro _)
        | (apply kT; (iterate 2 exact rfl); (· repeat (first | exact sH _ _ _ | apply sT)); iterate 2 exact rfl)
        | (apply kS; (iterate 2 exact rfl); (· repeat (first | exact sH _ _ _ | apply sT)); exact rfl)
        | (apply kh; (iterate 2 exact rfl); (first | decide | omega); exact rfl)
        | (apply kl; (iterate 2 exact rfl); (first | decide | omega); exact rfl)
        )
      | (apply LR.qcall; (· exact rfl); (· intro w1 h1; exact CallsTo.q (c101 _ _ _ _ w1 (rr_hold h1 hlc hz) hb (by omega)) h1))
      | (apply LR.ev; (· apply Ev.slice_lohi; (· exact rfl); (· exact rfl); (· exact rfl); (· first | omega | (dsimp only; omega)); (· first | omega | (dsimp only; omega)); (· first | omega | (dsimp only; omega))); (· exact rfl))
      | (apply LR.ev; (· apply Ev.slice_lo; (· exact rfl); (· exact rfl); (· first | omega | (dsimp only; omega)); (· first | omega | (dsimp only; omega))); (· exact rfl))
      | (apply LR.ev; (· apply Ev.add; (· exact rfl); (· exact rfl); (· first | omega | (dsimp only; omega)); (· first | omega | (dsimp only; omega))); (· exact rfl))
      | (apply LR.ev; (· apply Ev.sub; (· exact rfl); (· exact rfl); (· first | omega | (dsimp only; omega)); (· first | omega | (dsimp only; omega))); (· exact rfl))
      | ((first | (apply kR; (· exact rfl); (· exact rfl)) | (apply kQ; (· exact rfl))); all_goals (intro hc; try simp only [decide_eq_true_eq, decide_eq_false_iff_not, Bool.not_eq_true', Bool.not_eq_false', Bool.not_eq_true, Bool.not_eq_false, Bool.not_true, Bool.not_false, Int.not_lt, Int.not_le, List.cons.injEq, and_true, beq_iff_eq, beq_eq_false_iff_ne] at hc; try (exfalso; first | contradiction | omega)))
      )
    · (apply ret2; (· exact rfl); intro w' hS)
      have e : octs most l = ([], 5, l) := by unfold octs; rw [if_neg (by simpa using h1), if_pos (by assumption)]
      rw [e]
      exact ⟨a, c, none, 0, rfl, (nilB (rr_shut hS hlc hz)).swap⟩
    · (apply ret2; (· exact rfl); intro w' hS)
      have e : octs most l = ([], 3, l) := by unfold octs; rw [if_neg (by simpa using h1), if_neg (by omega), if_pos (by omega)]
      rw [e]
      exact ⟨a, c, none, 0, rfl, (nilB (rr_shut hS hlc hz)).swap⟩
    · rw [octs_len hc, octs_ok h1 (by assumption) hc]
      refine LR.append_nil (news := bv ((l.drop (dec l).2.1).take (dec l).1)) rfl rfl (fun w' hw' => rd_mid (hw'.holds _ (List.Mem.tail _ (List.Mem.head _))) hlc) (fun e => ⟨?_, subA_none hz e⟩) (by simp) (bv_one _) (by simp; omega) (by unfold maxLen; simp; omega) rfl ?_
      · exact (rd_mid (n := (dec l).2.1) (k := (dec l).1) h.2.1 hlc).none_len e
      intro a2 c2
      repeat' (
        first
        | (
          first
          | (apply kp; iterate 2 exact rfl)
          | apply ja | apply jb | apply jg | apply jj | (apply je; exact rfl) | (apply jf; exact rfl) | apply jd | apply jh | apply ji | (apply jc; kernel_rfl) | apply jk | apply jl | apply jm | apply jn | apply jo | (apply jp; exact rfl) | apply jq | apply jr | apply js | apply jt | apply ju | apply jv | apply jw | apply kN | apply kM
          | (apply kf; iterate 2 exact rfl)
          | (apply ko; (· exact rfl); (· repeat (first | exact mH _ _ | apply mT)); iterate 2 exact rfl)
          | (apply ka; (· exact rfl); (· repeat (first | exact mH _ _ | apply mT)); iterate 2 exact rfl)
          | (apply kr; (· exact rfl); (· repeat (first | exact mH _ _ | apply mT)); iterate 3 exact rfl)
          | (apply ks; (· exact rfl); (· repeat (first | exact mH _ _ | apply mT)); iterate 2 exact rfl)
          | (apply kn; iterate 2 exact rfl)
          | (apply ke; iterate 2 exact rfl)
          | (apply kx; iterate 2 exact rfl)
          | (apply kc; iterate 2 exact rfl)
          | (apply kb; iterate 2 exact rfl)
          | (apply kg; iterate 2 exact rfl)
          | (apply kG; iterate 3 exact rfl)
          | (apply kB; (iterate 2 exact rfl); intro _)
          | (apply kA; exact rfl; intro _)
          | (apply kL; (iterate 3 exact rfl); (· repeat (first | exact BS.nil _ | (apply BS.int; exact rfl) | (apply BS.ptr; exact rfl) | (apply BS.slice; exact rfl) | (apply BS.agg; iterate 2 exact rfl))); intro _)
          | (apply kT; (iterate 2 exact rfl); (· repeat (first | exact sH _ _ _ | apply sT)); iterate 2 exact rfl)
          | (apply kS; (iterate 2 exact rfl); (· repeat (first | exact sH _ _ _ | apply sT)); exact rfl)
          | (apply kh; (iterate 2 exact rfl); (first | decide | omega); exact rfl)
          | (apply kl; (iterate 2 exact rfl); (first | decide | omega); exact rfl)
          )
        | (apply LR.ev; (· apply Ev.slice_lo; (· exact rfl); (· exact rfl); (· first | omega | (dsimp only; omega)); (· first | omega | (dsimp only; omega))); (· exact rfl))
        | (apply LR.ev; (· apply Ev.add; (· exact rfl); (· exact rfl); (· first | omega | (dsimp only; omega)); (· first | omega | (dsimp only; omega))); (· exact rfl))
        | ((first | (apply kR; (· exact rfl); (· exact rfl)) | (apply kQ; (· exact rfl))); all_goals (intro hc; try simp only [decide_eq_true_eq, decide_eq_false_iff_not, Bool.not_eq_true', Bool.not_eq_false', Bool.not_eq_true, Bool.not_eq_false, Bool.not_true, Bool.not_false, Int.not_lt, Int.not_le, List.cons.injEq, and_true, beq_iff_eq, beq_eq_false_iff_ne] at hc; try (exfalso; first | contradiction | omega)))
        )
      (apply ret2; (· exact rfl); intro w' hS)
      have e3 : (((dec l).2.1 : Int) + ((dec l).1 : Int)).toNat = (dec l).2.1 + (dec l).1 := by omega
      rw [e3] at hS
      refine ⟨subA a c ((dec l).2.1 + (dec l).1) 1, c - ((dec l).2.1 + (dec l).1), a2, c2, rfl, ?_⟩
      refine ((rr_drop2 (n := (dec l).2.1 + (dec l).1) (ex := []) (R := [_]) (St.rot hS) ?_ hlc hz (by omega)))
      simp [splice]
  · repeat' (
      first
      | (
        first
        | (apply kp; iterate 2 exact rfl)
        | apply ja | apply jb | apply jg | apply jj | (apply je; exact rfl) | (apply jf; exact rfl) | apply jd | apply jh | apply ji | (apply jc; kernel_rfl) | apply jk | apply jl | apply jm | apply jn | apply jo | (apply jp; exact rfl) | apply jq | apply jr | apply js | apply jt | apply ju | apply jv | apply jw | apply kN | apply kM
        | (apply kf; iterate 2 exact rfl)
        | (apply ko; (· exact rfl); (· repeat (first | exact mH _ _ | apply mT)); iterate 2 exact rfl)
        | (apply ka; (· exact rfl); (· repeat (first | exact mH _ _ | apply mT)); iterate 2 exact rfl)
        | (apply kr; (· exact rfl); (· repeat (first | exact mH _ _ | apply mT)); iterate 3 exact rfl)
        | (apply ks; (· exact rfl); (· repeat (first | exact mH _ _ | apply mT)); iterate 2 exact rfl)
        | (apply kn; iterate 2 exact rfl)
        | (apply ke; iterate 2 exact rfl)
        | (apply kx; iterate 2 exact rfl)
        | (apply kc; iterate 2 exact rfl)
        | (apply kb; iterate 2 exact rfl)
        | (apply kg; iterate 2 exact rfl)
        | (apply kG; iterate 3 exact rfl)
        | (apply kB; (iterate 2 exact rfl); intro _)
        | (apply kA; exact rfl; intro _)
        | (apply kL; (iterate 3 exact rfl); (· repeat (first | exact BS.nil _ | (apply BS.int; exact rfl) | (apply BS.ptr; exact rfl) | (apply BS.slice; exact rfl) | (apply BS.agg; iterate 2 exact rfl))); intro _)
        | (apply kT; (iterate 2 exact rfl); (· repeat (first | exact sH _ _ _ | apply sT)); iterate 2 exact rfl)
        | (apply kS; (iterate 2 exact rfl); (· repeat (first | exact sH _ _ _ | apply sT)); exact rfl)
        | (apply kh; (iterate 2 exact rfl); (first | decide | omega); exact rfl)
        | (apply kl; (iterate 2 exact rfl); (first | decide | omega); exact rfl)
        )
      | (apply LR.qcall; (· exact rfl); (· intro w1 h1; exact CallsTo.q (c101 _ _ _ _ w1 (rr_hold h1 hlc hz) hb (by omega)) h1))
      | ((first | (apply kR; (· exact rfl); (· exact rfl)) | (apply kQ; (· exact rfl))); all_goals (intro hc; try simp only [decide_eq_true_eq, decide_eq_false_iff_not, Bool.not_eq_true', Bool.not_eq_false', Bool.not_eq_true, Bool.not_eq_false, Bool.not_true, Bool.not_false, Int.not_lt, Int.not_le, List.cons.injEq, and_true, beq_iff_eq, beq_eq_false_iff_ne] at hc; try (exfalso; first | contradiction | omega)))
      )
    (apply ret2; (· exact rfl); intro w' hS)
    have e : octs most l = ([], (dec l).2.2, l) := by unfold octs; rw [if_pos h1]
    rw [e]
    exact ⟨a, c, none, 0, rfl, (nilB (rr_shut hS hlc hz)).swap⟩
end Go.Proofs.Ytomlgnncncjmaaa
