/-
  The chapter's examples of queues, and queues that are none: the law.
-/
import Derived.Test.YtomlgnncncjmaaaQ4
-- all by hand
namespace Go.Proofs.Ytomlgnncncjmaaa
open Go.Hb Go.ChangeShapes Go.WideShapes
attribute [local irreducible] LR CW At Ev thn blk finK noG again CallsTo DW QL dnext TW DP
set_option linter.unusedSimpArgs false
set_option linter.unusedVariables false
set_option maxRecDepth 100000

/-- A queue that is none. -/
def NoQ (w : World) (p : Option Addr) : Prop := p = none ∨ ∃ b, p = some ⟨b, 0, none⟩ ∧ Rd w (some ⟨b, 0, none⟩) zeroQ
theorem NoQ.mono {w w' : World} {p : Option Addr} (h : NoQ w p) (hg : Grew w w') : NoQ w' p := by
  rcases h with h | ⟨b, h, hr⟩
  · exact .inl h
  · exact .inr ⟨b, h, hg.oldRd hr⟩
theorem c85n (p : Option Addr) (w : World) (h : NoQ w p) : CallsTo Try.prog 85 [.pointer p] w fun v w' => v = .bool true ∧ Grew w w' := by
  rcases h with rfl | ⟨b, rfl, hr⟩
  · refine go_in (n := 12) (St.refl _ NoF) Try.func85 rfl rfl ?_
    repeat' (
      first
      | (
        first
        | (apply kp; iterate 2 exact rfl)
        | apply ja | apply jb | apply jg | apply jj | (apply je; exact rfl) | (apply jf; exact rfl) | apply jd | apply jh | apply ji | (apply jc; kernel_rfl) | apply jk | apply jl | apply jm | apply jn | apply jo | (apply jp; exact rfl) | apply jq | apply jr | apply js | apply jt | apply ju | apply jv | apply jw | apply kN | apply kM
        | (apply kf; iterate 2 exact rfl)
        | (apply ko; (· exact rfl); (· repeat (first | exact mH _ _ | apply mT)); iterate 2 exact rfl)
        | (apply ka; (· exact rfl); (· repeat (first | exact mH _ _ | apply mT)); iterate 2 exact rfl)
        | (apply kr; (· exact rfl); (· repeat (first | exact mH _ _ | apply mT)); iterate 3 exact rfl)
        | (apply ks; (· exact rfl); (· repeat (first | exact mH _ _ | apply mT)); iterate 2 exact rfl)
        | (apply kn; iterate 2 exact rfl)
        | (apply ke; iterate 2 exact rfl)
        | (apply kx; iterate 2 exact rfl)
        | (apply kc; iterate 2 exact rfl)
        | (apply kb; iterate 2 exact rfl)
        | (apply kg; iterate 2 exact rfl)
        | (apply kG; iterate 3 exact rfl)
        | (apply kB; (iterate 2 exact rfl); intro _)
        | (apply kA; exact rfl; intro _)
        | (apply kL; (iterate 3 exact rfl); (· repeat (first | exact BS.nil _ | (apply BS.int; exact rfl) | (apply BS.ptr; exact rfl) | (apply BS.slice; exact rfl) | (apply BS.agg; iterate 2 exact rfl))); intro _)
        | (apply kT; (iterate 2 exact rfl); (· repeat (first | exact sH _ _ _ | apply sT)); iterate 2 exact rfl)
        | (apply kS; (iterate 2 exact rfl); (· repeat (first | exact sH _ _ _ | apply sT)); exact rfl)
        | (apply kh; (iterate 2 exact rfl); (first | decide | omega); exact rfl)
        | (apply kl; (iterate 2 exact rfl); (first | decide | omega); exact rfl)
        )
      | ((first | (apply kR; (· exact rfl); (· exact rfl)) | (apply kQ; (· exact rfl))); all_goals (intro hc; try simp only [decide_eq_true_eq, decide_eq_false_iff_not, Bool.not_eq_true', Bool.not_eq_false', Bool.not_eq_true, Bool.not_eq_false, Bool.not_true, Bool.not_false, Int.not_lt, Int.not_le, List.cons.injEq, and_true, beq_iff_eq, beq_eq_false_iff_ne] at hc; try (exfalso; first | contradiction | omega)))
      )
    (apply ret1; (· exact rfl); intro w' hS)
    exact ⟨rfl, hS.toKeep⟩
  · refine go_in (n := 12) (St.rd1 hr) Try.func85 rfl rfl ?_
    repeat' (
      first
      | (
        first
        | (apply kp; iterate 2 exact rfl)
        | apply ja | apply jb | apply jg | apply jj | (apply je; exact rfl) | (apply jf; exact rfl) | apply jd | apply jh | apply ji | (apply jc; kernel_rfl) | apply jk | apply jl | apply jm | apply jn | apply jo | (apply jp; exact rfl) | apply jq | apply jr | apply js | apply jt | apply ju | apply jv | apply jw | apply kN | apply kM
        | (apply kf; iterate 2 exact rfl)
        | (apply ko; (· exact rfl); (· repeat (first | exact mH _ _ | apply mT)); iterate 2 exact rfl)
        | (apply ka; (· exact rfl); (· repeat (first | exact mH _ _ | apply mT)); iterate 2 exact rfl)
        | (apply kr; (· exact rfl); (· repeat (first | exact mH _ _ | apply mT)); iterate 3 exact rfl)
        | (apply ks; (· exact rfl); (· repeat (first | exact mH _ _ | apply mT)); iterate 2 exact rfl)
        | (apply kn; iterate 2 exact rfl)
        | (apply ke; iterate 2 exact rfl)
        | (apply kx; iterate 2 exact rfl)
        | (apply kc; iterate 2 exact rfl)
        | (apply kb; iterate 2 exact rfl)
        | (apply kg; iterate 2 exact rfl)
        | (apply kG; iterate 3 exact rfl)
        | (apply kB; (iterate 2 exact rfl); intro _)
        | (apply kA; exact rfl; intro _)
        | (apply kL; (iterate 3 exact rfl); (· repeat (first | exact BS.nil _ | (apply BS.int; exact rfl) | (apply BS.ptr; exact rfl) | (apply BS.slice; exact rfl) | (apply BS.agg; iterate 2 exact rfl))); intro _)
        | (apply kT; (iterate 2 exact rfl); (· repeat (first | exact sH _ _ _ | apply sT)); iterate 2 exact rfl)
        | (apply kS; (iterate 2 exact rfl); (· repeat (first | exact sH _ _ _ | apply sT)); exact rfl)
        | (apply kh; (iterate 2 exact rfl); (first | decide | omega); exact rfl)
        | (apply kl; (iterate 2 exact rfl); (first | decide | omega); exact rfl)
        )
      | ((first | (apply kR; (· exact rfl); (· exact rfl)) | (apply kQ; (· exact rfl))); all_goals (intro hc; try simp only [decide_eq_true_eq, decide_eq_false_iff_not, Bool.not_eq_true', Bool.not_eq_false', Bool.not_eq_true, Bool.not_eq_false, Bool.not_true, Bool.not_false, Int.not_lt, Int.not_le, List.cons.injEq, and_true, beq_iff_eq, beq_eq_false_iff_ne] at hc; try (exfalso; first | contradiction | omega)))
      )
    (apply ret1; (· exact rfl); intro w' hS)
    exact ⟨rfl, hS.toKeep⟩
theorem c44n (p : Option Addr) (w : World) (h : NoQ w p) : CallsTo Try.prog 44 [.pointer p] w fun v w' => v = .tuple [zeroMsg.val none 0, .int .i64 1].toArray ∧ Grew w w' := by
  refine go_in (n := 51) (St.refl _ NoF) Try.func44 rfl rfl ?_
  repeat' (
    first
    | (
      first
      | (apply kp; iterate 2 exact rfl)
      | apply ja | apply jb | apply jg | apply jj | (apply je; exact rfl) | (apply jf; exact rfl) | apply jd | apply jh | apply ji | (apply jc; kernel_rfl) | apply jk | apply jl | apply jm | apply jn | apply jo | (apply jp; exact rfl) | apply jq | apply jr | apply js | apply jt | apply ju | apply jv | apply jw | apply kN | apply kM
      | (apply kf; iterate 2 exact rfl)
      | (apply ko; (· exact rfl); (· repeat (first | exact mH _ _ | apply mT)); iterate 2 exact rfl)
      | (apply ka; (· exact rfl); (· repeat (first | exact mH _ _ | apply mT)); iterate 2 exact rfl)
      | (apply kr; (· exact rfl); (· repeat (first | exact mH _ _ | apply mT)); iterate 3 exact rfl)
      | (apply ks; (· exact rfl); (· repeat (first | exact mH _ _ | apply mT)); iterate 2 exact rfl)
      | (apply kn; iterate 2 exact rfl)
      | (apply ke; iterate 2 exact rfl)
      | (apply kx; iterate 2 exact rfl)
      | (apply kc; iterate 2 exact rfl)
      | (apply kb; iterate 2 exact rfl)
      | (apply kg; iterate 2 exact rfl)
      | (apply kG; iterate 3 exact rfl)
      | (apply kB; (iterate 2 exact rfl); intro _)
      | (apply kA; exact rfl; intro _)
      | (apply kL; (iterate 3 exact rfl); (· repeat (first | exact BS.nil _ | (apply BS.int; exact rfl) | (apply BS.ptr; exact rfl) | (apply BS.slice; exact rfl) | (apply BS.agg; iterate 2 exact rfl))); intro _)
      | (apply kT; (iterate 2 exact rfl); (· repeat (first | exact sH _ _ _ | apply sT)); iterate 2 exact rfl)
      | (apply kS; (iterate 2 exact rfl); (· repeat (first | exact sH _ _ _ | apply sT)); exact rfl)
      | (apply kh; (iterate 2 exact rfl); (first | decide | omega); exact rfl)
      | (apply kl; (iterate 2 exact rfl); (first | decide | omega); exact rfl)
      )
    | (apply kq; (· exact rfl); (· intro w1 h1; exact CallsTo.q (c85n p w1 (h.mono h1.toKeep)) h1))
    | ((first | (apply kR; (· exact rfl); (· exact rfl)) | (apply kQ; (· exact rfl))); all_goals (intro hc; try simp only [decide_eq_true_eq, decide_eq_false_iff_not, Bool.not_eq_true', Bool.not_eq_false', Bool.not_eq_true, Bool.not_eq_false, Bool.not_true, Bool.not_false, Int.not_lt, Int.not_le, List.cons.injEq, and_true, beq_iff_eq, beq_eq_false_iff_ne] at hc; try (exfalso; first | contradiction | omega)))
    )
  (apply ret2c; (· exact rfl); (· exact inferInstance); (· exact rfl); (· (repeat (first | exact List.Mem.head _ | apply List.Mem.tail))); (· exact rfl); intro w' hS)
  exact ⟨rfl, hS.toKeep⟩
theorem c46n (p : Option Addr) (w : World) (h : NoQ w p) : CallsTo Try.prog 46 [.pointer p] w fun v w' => v = .int .i64 0 ∧ Grew w w' := by
  refine go_in (n := 9) (St.refl _ NoF) Try.func46 rfl rfl ?_
  repeat' (
    first
    | (
      first
      | (apply kp; iterate 2 exact rfl)
      | apply ja | apply jb | apply jg | apply jj | (apply je; exact rfl) | (apply jf; exact rfl) | apply jd | apply jh | apply ji | (apply jc; kernel_rfl) | apply jk | apply jl | apply jm | apply jn | apply jo | (apply jp; exact rfl) | apply jq | apply jr | apply js | apply jt | apply ju | apply jv | apply jw | apply kN | apply kM
      | (apply kf; iterate 2 exact rfl)
      | (apply ko; (· exact rfl); (· repeat (first | exact mH _ _ | apply mT)); iterate 2 exact rfl)
      | (apply ka; (· exact rfl); (· repeat (first | exact mH _ _ | apply mT)); iterate 2 exact rfl)
      | (apply kr; (· exact rfl); (· repeat (first | exact mH _ _ | apply mT)); iterate 3 exact rfl)
      | (apply ks; (· exact rfl); (· repeat (first | exact mH _ _ | apply mT)); iterate 2 exact rfl)
      | (apply kn; iterate 2 exact rfl)
      | (apply ke; iterate 2 exact rfl)
      | (apply kx; iterate 2 exact rfl)
      | (apply kc; iterate 2 exact rfl)
      | (apply kb; iterate 2 exact rfl)
      | (apply kg; iterate 2 exact rfl)
      | (apply kG; iterate 3 exact rfl)
      | (apply kB; (iterate 2 exact rfl); intro _)
      | (apply kA; exact rfl; intro _)
      | (apply kL; (iterate 3 exact rfl); (· repeat (first | exact BS.nil _ | (apply BS.int; exact rfl) | (apply BS.ptr; exact rfl) | (apply BS.slice; exact rfl) | (apply BS.agg; iterate 2 exact rfl))); intro _)
      | (apply kT; (iterate 2 exact rfl); (· repeat (first | exact sH _ _ _ | apply sT)); iterate 2 exact rfl)
      | (apply kS; (iterate 2 exact rfl); (· repeat (first | exact sH _ _ _ | apply sT)); exact rfl)
      | (apply kh; (iterate 2 exact rfl); (first | decide | omega); exact rfl)
      | (apply kl; (iterate 2 exact rfl); (first | decide | omega); exact rfl)
      )
    | (apply kq; (· exact rfl); (· intro w1 h1; exact CallsTo.q (c85n p w1 (h.mono h1.toKeep)) h1))
    | ((first | (apply kR; (· exact rfl); (· exact rfl)) | (apply kQ; (· exact rfl))); all_goals (intro hc; try simp only [decide_eq_true_eq, decide_eq_false_iff_not, Bool.not_eq_true', Bool.not_eq_false', Bool.not_eq_true, Bool.not_eq_false, Bool.not_true, Bool.not_false, Int.not_lt, Int.not_le, List.cons.injEq, and_true, beq_iff_eq, beq_eq_false_iff_ne] at hc; try (exfalso; first | contradiction | omega)))
    )
  (apply ret1; (· exact rfl); intro w' hS)
  exact ⟨rfl, hS.toKeep⟩
theorem c48n (p : Option Addr) (w : World) (h : NoQ w p) : CallsTo Try.prog 48 [.pointer p] w fun v w' => v = .int .i64 0 ∧ Grew w w' := by
  refine go_in (n := 10) (St.refl _ NoF) Try.func48 rfl rfl ?_
  repeat' (
    first
    | (
      first
      | (apply kp; iterate 2 exact rfl)
      | apply ja | apply jb | apply jg | apply jj | (apply je; exact rfl) | (apply jf; exact rfl) | apply jd | apply jh | apply ji | (apply jc; kernel_rfl) | apply jk | apply jl | apply jm | apply jn | apply jo | (apply jp; exact rfl) | apply jq | apply jr | apply js | apply jt | apply ju | apply jv | apply jw | apply kN | apply kM
      | (apply kf; iterate 2 exact rfl)
      | (apply ko; (· exact rfl); (· repeat (first | exact mH _ _ | apply mT)); iterate 2 exact rfl)
      | (apply ka; (· exact rfl); (· repeat (first | exact mH _ _ | apply mT)); iterate 2 exact rfl)
      | (apply kr; (· exact rfl); (· repeat (first | exact mH _ _ | apply mT)); iterate 3 exact rfl)
      | (apply ks; (· exact rfl); (· repeat (first | exact mH _ _ | apply mT)); iterate 2 exact rfl)
      | (apply kn; iterate 2 exact rfl)
      | (apply ke; iterate 2 exact rfl)
      | (apply kx; iterate 2 exact rfl)
      | (apply kc; iterate 2 exact rfl)
      | (apply kb; iterate 2 exact rfl)
      | (apply kg; iterate 2 exact rfl)
      | (apply kG; iterate 3 exact rfl)
      | (apply kB; (iterate 2 exact rfl); intro _)
      | (apply kA; exact rfl; intro _)
      | (apply kL; (iterate 3 exact rfl); (· repeat (first | exact BS.nil _ | (apply BS.int; exact rfl) | (apply BS.ptr; exact rfl) | (apply BS.slice; exact rfl) | (apply BS.agg; iterate 2 exact rfl))); intro _)
      | (apply kT; (iterate 2 exact rfl); (· repeat (first | exact sH _ _ _ | apply sT)); iterate 2 exact rfl)
      | (apply kS; (iterate 2 exact rfl); (· repeat (first | exact sH _ _ _ | apply sT)); exact rfl)
      | (apply kh; (iterate 2 exact rfl); (first | decide | omega); exact rfl)
      | (apply kl; (iterate 2 exact rfl); (first | decide | omega); exact rfl)
      )
    | (apply kq; (· exact rfl); (· intro w1 h1; exact CallsTo.q (c85n p w1 (h.mono h1.toKeep)) h1))
    | ((first | (apply kR; (· exact rfl); (· exact rfl)) | (apply kQ; (· exact rfl))); all_goals (intro hc; try simp only [decide_eq_true_eq, decide_eq_false_iff_not, Bool.not_eq_true', Bool.not_eq_false', Bool.not_eq_true, Bool.not_eq_false, Bool.not_true, Bool.not_false, Int.not_lt, Int.not_le, List.cons.injEq, and_true, beq_iff_eq, beq_eq_false_iff_ne] at hc; try (exfalso; first | contradiction | omega)))
    )
  (apply ret1; (· exact rfl); intro w' hS)
  exact ⟨rfl, hS.toKeep⟩
theorem c41n (p : Option Addr) (s : Value) (w : World) (h : NoQ w p) : CallsTo Try.prog 41 [.pointer p, s] w fun v w' => v = .int .i64 1 ∧ Grew w w' := by
  refine go_in (n := 59) (St.refl _ NoF) Try.func41 rfl rfl ?_
  repeat' (
    first
    | (
      first
      | (apply kp; iterate 2 exact rfl)
      | apply ja | apply jb | apply jg | apply jj | (apply je; exact rfl) | (apply jf; exact rfl) | apply jd | apply jh | apply ji | (apply jc; kernel_rfl) | apply jk | apply jl | apply jm | apply jn | apply jo | (apply jp; exact rfl) | apply jq | apply jr | apply js | apply jt | apply ju | apply jv | apply jw | apply kN | apply kM
      | (apply kf; iterate 2 exact rfl)
      | (apply ko; (· exact rfl); (· repeat (first | exact mH _ _ | apply mT)); iterate 2 exact rfl)
      | (apply ka; (· exact rfl); (· repeat (first | exact mH _ _ | apply mT)); iterate 2 exact rfl)
      | (apply kr; (· exact rfl); (· repeat (first | exact mH _ _ | apply mT)); iterate 3 exact rfl)
      | (apply ks; (· exact rfl); (· repeat (first | exact mH _ _ | apply mT)); iterate 2 exact rfl)
      | (apply kn; iterate 2 exact rfl)
      | (apply ke; iterate 2 exact rfl)
      | (apply kx; iterate 2 exact rfl)
      | (apply kc; iterate 2 exact rfl)
      | (apply kb; iterate 2 exact rfl)
      | (apply kg; iterate 2 exact rfl)
      | (apply kG; iterate 3 exact rfl)
      | (apply kB; (iterate 2 exact rfl); intro _)
      | (apply kA; exact rfl; intro _)
      | (apply kL; (iterate 3 exact rfl); (· repeat (first | exact BS.nil _ | (apply BS.int; exact rfl) | (apply BS.ptr; exact rfl) | (apply BS.slice; exact rfl) | (apply BS.agg; iterate 2 exact rfl))); intro _)
      | (apply kT; (iterate 2 exact rfl); (· repeat (first | exact sH _ _ _ | apply sT)); iterate 2 exact rfl)
      | (apply kS; (iterate 2 exact rfl); (· repeat (first | exact sH _ _ _ | apply sT)); exact rfl)
      | (apply kh; (iterate 2 exact rfl); (first | decide | omega); exact rfl)
      | (apply kl; (iterate 2 exact rfl); (first | decide | omega); exact rfl)
      )
    | (apply kq; (· exact rfl); (· intro w1 h1; exact CallsTo.q (c85n p w1 (h.mono h1.toKeep)) h1))
    | ((first | (apply kR; (· exact rfl); (· exact rfl)) | (apply kQ; (· exact rfl))); all_goals (intro hc; try simp only [decide_eq_true_eq, decide_eq_false_iff_not, Bool.not_eq_true', Bool.not_eq_false', Bool.not_eq_true, Bool.not_eq_false, Bool.not_true, Bool.not_false, Int.not_lt, Int.not_le, List.cons.injEq, and_true, beq_iff_eq, beq_eq_false_iff_ne] at hc; try (exfalso; first | contradiction | omega)))
    )
  (apply ret1; (· exact rfl); intro w' hS)
  exact ⟨rfl, hS.toKeep⟩

theorem textsL_cons (f n : Nat) : textsL f (n + 1) = textN (f : Int) :: textsL (f + 1) n := by
  unfold textsL
  rw [List.range_succ_eq_map, List.map_cons, List.map_map]
  refine List.cons_eq_cons.2 ⟨rfl, List.map_congr_left fun i _ => ?_⟩
  show textN ((f + (i + 1) : Nat) : Int) = textN ((f + 1 + i : Nat) : Int)
  rw [show f + (i + 1) = f + 1 + i by omega]
/-- Messages in a block of one's own are put in. -/
theorem put_blk {w0 w1 : World} {R : List Asrt} {b first bs : Nat} {slots L : List MsgA} {cs : List Value} {l : List MsgA} (h1 : St w0 NoF (.own bs (.cells cs.toArray 28 (0, 0)) :: R) w1) (hcs : cs = l.flatMap MsgA.row) (hqm : qO b first slots L ∈ R) (hq : QRep first slots L)
    (hR : ∀ x ∈ l, MR w1 x) (hRd : ∀ x ∈ l, ∀ k, rdFoot x.a (bv x.m.body) k → ¬ (qO b first slots L).foot k) (hm : l.length ≤ 140737488355328) :
    CallsTo Try.prog 41 [.pointer (some ⟨b, 0, none⟩), .slice (some ⟨bs, 0, none⟩) l.length l.length] w1 fun v w' => ∃ slots' L', v = .int .i64 (qputE L.length l) ∧ QRep first slots' L' ∧ L'.map MsgA.m = L.map MsgA.m ++ (if qputE L.length l = 0 then l.map MsgA.m else []) ∧ Step (qO b first slots L) (qO b first slots' L') w1 w' :=
  c41 b first slots L (some ⟨bs, 0, none⟩) l.length l w1 (h1.holds _ (mT _ hqm)) hq (hcs ▸ h1.rd_of_blk (mH _ _)) (fun k hk => h1.apart hqm rfl k (by obtain ⟨_, ad, e, rfl⟩ := hk; cases e; rfl)) hR hRd hm
theorem put_none {w0 w1 : World} {R : List Asrt} {b first : Nat} {slots L : List MsgA} (h1 : St w0 NoF R w1) (hqm : qO b first slots L ∈ R) (hq : QRep first slots L) :
    CallsTo Try.prog 41 [.pointer (some ⟨b, 0, none⟩), .slice none 0 0] w1 fun v w' => ∃ slots' L', v = .int .i64 0 ∧ QRep first slots' L' ∧ L'.map MsgA.m = L.map MsgA.m ∧ Step (qO b first slots L) (qO b first slots' L') w1 w' := by
  have hL := hq.hL
  have := c41 b first slots L none 0 [] w1 (h1.holds _ hqm) hq (Rd.nil _ _) (fun k hk => absurd rfl hk.1) (fun x hx => by simp at hx) (fun x hx => by simp at hx) (by simp)
  rw [qputE_ok (n := L.length) (l := []) (fun x hx => by simp at hx) (by simpa using hL)] at this
  refine CallsTo.mono this ?_
  rintro v w' ⟨s, L', h1, h2, h3, h4⟩
  exact ⟨s, L', h1, h2, by simpa using h3, h4⟩
theorem text_len (n : Int) : (textN n).body.length = 1 := rfl
theorem text_byt (n : Nat) (h : n < 200) : Byt (textN (n : Int)).body := by
  intro b hb
  simp only [textN, List.mem_singleton] at hb
  subst hb
  exact byt_text _ h
theorem osl_MR {w : World} {x : MsgA} (h : x.body.holds w) (hb : Byt x.m.body) (hl : x.m.body.length ≤ 140737488355328) : MR w x :=
  have hh : w.ownsRow 0 5 1 (.slice x.a x.m.body.length x.c) x.m.body.length (bv x.m.body) := h
  ⟨ownsRow_rd hh, fun e => (ownsRow_some hh e).2, hl, hb⟩
theorem qputE_any {n : Nat} {l : List MsgA} {x : MsgA} (h : x ∈ l) (hc : ¬ check x.m = 0) : qputE n l = 2 := by
  unfold qputE
  rw [if_pos]
  rw [List.any_eq_true]
  exact ⟨x, h, by simpa using hc⟩
theorem zero_bad : ¬ check zeroA.m = 0 := by have : check zeroA.m = 2 := by kernel_rfl
                                             omega
set_option maxHeartbeats 8000000 in
theorem c13 (w : World) : CallsTo Try.prog 13 [] w fun v w' => v = .bool true ∧ Grew w w' := by
  refine go_in (n := 144) (St.refl _ NoF) Try.func13 rfl rfl ?_
  repeat' (
    first
    | (
      first
      | (apply kp; iterate 2 exact rfl)
      | apply ja | apply jb | apply jg | apply jj | (apply je; exact rfl) | (apply jf; exact rfl) | apply jd | apply jh | apply ji | (apply jc; kernel_rfl) | apply jk | apply jl | apply jm | apply jn | apply jo | (apply jp; exact rfl) | apply jq | apply jr | apply js | apply jt | apply ju | apply jv | apply jw | apply kN | apply kM
      | (apply kf; iterate 2 exact rfl)
      | (apply ko; (· exact rfl); (· repeat (first | exact mH _ _ | apply mT)); iterate 2 exact rfl)
      | (apply ka; (· exact rfl); (· repeat (first | exact mH _ _ | apply mT)); iterate 2 exact rfl)
      | (apply kr; (· exact rfl); (· repeat (first | exact mH _ _ | apply mT)); iterate 3 exact rfl)
      | (apply ks; (· exact rfl); (· repeat (first | exact mH _ _ | apply mT)); iterate 2 exact rfl)
      | (apply kn; iterate 2 exact rfl)
      | (apply ke; iterate 2 exact rfl)
      | (apply kx; iterate 2 exact rfl)
      | (apply kc; iterate 2 exact rfl)
      | (apply kb; iterate 2 exact rfl)
      | (apply kg; iterate 2 exact rfl)
      | (apply kG; iterate 3 exact rfl)
      | (apply kB; (iterate 2 exact rfl); intro _)
      | (apply kA; exact rfl; intro _)
      | (apply kL; (iterate 3 exact rfl); (· repeat (first | exact BS.nil _ | (apply BS.int; exact rfl) | (apply BS.ptr; exact rfl) | (apply BS.slice; exact rfl) | (apply BS.agg; iterate 2 exact rfl))); intro _)
      | (apply kT; (iterate 2 exact rfl); (· repeat (first | exact sH _ _ _ | apply sT)); iterate 2 exact rfl)
      | (apply kS; (iterate 2 exact rfl); (· repeat (first | exact sH _ _ _ | apply sT)); exact rfl)
      | (apply kh; (iterate 2 exact rfl); (first | decide | omega); exact rfl)
      | (apply kl; (iterate 2 exact rfl); (first | decide | omega); exact rfl)
      )
    | ((first | (apply kR; (· exact rfl); (· exact rfl)) | (apply kQ; (· exact rfl))); all_goals (intro hc; try simp only [decide_eq_true_eq, decide_eq_false_iff_not, Bool.not_eq_true', Bool.not_eq_false', Bool.not_eq_true, Bool.not_eq_false, Bool.not_true, Bool.not_false, Int.not_lt, Int.not_le, List.cons.injEq, and_true, beq_iff_eq, beq_eq_false_iff_ne] at hc; try (exfalso; first | contradiction | omega)))
    )
  apply LR.call
  · exact rfl
  intro w1 h1
  refine (c38 w1).mono ?_
  rintro v w2 ⟨b, rfl, hn⟩
  have h2 : St w NoF [qO b 0 (List.replicate 32 zeroA) []] w2 := ((h1.got hn (Asrt.dep_own _ _)).bun_nil MsgA.dep).swap.join rfl rfl
  refine LR.back h2 ?_
  clear h2 h1 hn
  repeat' (
    first
    | (
      first
      | (apply kp; iterate 2 exact rfl)
      | apply ja | apply jb | apply jg | apply jj | (apply je; exact rfl) | (apply jf; exact rfl) | apply jd | apply jh | apply ji | (apply jc; kernel_rfl) | apply jk | apply jl | apply jm | apply jn | apply jo | (apply jp; exact rfl) | apply jq | apply jr | apply js | apply jt | apply ju | apply jv | apply jw | apply kN | apply kM
      | (apply kf; iterate 2 exact rfl)
      | (apply ko; (· exact rfl); (· repeat (first | exact mH _ _ | apply mT)); iterate 2 exact rfl)
      | (apply ka; (· exact rfl); (· repeat (first | exact mH _ _ | apply mT)); iterate 2 exact rfl)
      | (apply kr; (· exact rfl); (· repeat (first | exact mH _ _ | apply mT)); iterate 3 exact rfl)
      | (apply ks; (· exact rfl); (· repeat (first | exact mH _ _ | apply mT)); iterate 2 exact rfl)
      | (apply kn; iterate 2 exact rfl)
      | (apply ke; iterate 2 exact rfl)
      | (apply kx; iterate 2 exact rfl)
      | (apply kc; iterate 2 exact rfl)
      | (apply kb; iterate 2 exact rfl)
      | (apply kg; iterate 2 exact rfl)
      | (apply kG; iterate 3 exact rfl)
      | (apply kB; (iterate 2 exact rfl); intro _)
      | (apply kA; exact rfl; intro _)
      | (apply kL; (iterate 3 exact rfl); (· repeat (first | exact BS.nil _ | (apply BS.int; exact rfl) | (apply BS.ptr; exact rfl) | (apply BS.slice; exact rfl) | (apply BS.agg; iterate 2 exact rfl))); intro _)
      | (apply kT; (iterate 2 exact rfl); (· repeat (first | exact sH _ _ _ | apply sT)); iterate 2 exact rfl)
      | (apply kS; (iterate 2 exact rfl); (· repeat (first | exact sH _ _ _ | apply sT)); exact rfl)
      | (apply kh; (iterate 2 exact rfl); (first | decide | omega); exact rfl)
      | (apply kl; (iterate 2 exact rfl); (first | decide | omega); exact rfl)
      )
    | (apply kq; (· exact rfl); (· intro w1 h1; exact CallsTo.q (c44e b 0 (List.replicate 32 zeroA) w1 (qO_rd (h1.holds (qO b 0 (List.replicate 32 zeroA) []) (by (repeat (first | exact mH _ _ | apply mT)))))) h1))
    | ((first | (apply kR; (· exact rfl); (· exact rfl)) | (apply kQ; (· exact rfl))); all_goals (intro hc; try simp only [decide_eq_true_eq, decide_eq_false_iff_not, Bool.not_eq_true', Bool.not_eq_false', Bool.not_eq_true, Bool.not_eq_false, Bool.not_true, Bool.not_false, Int.not_lt, Int.not_le, List.cons.injEq, and_true, beq_iff_eq, beq_eq_false_iff_ne] at hc; try (exfalso; first | contradiction | omega)))
    )
  apply LR.call
  · exact rfl
  intro w1 h1
  refine (c51 1 w1 (by decide)).mono ?_
  rintro v w2 ⟨a1, c1, rfl, hn1⟩
  refine LR.back (h1.newSl hn1) ?_
  clear hn1 h1
  repeat' (
    first
    | (
      first
      | (apply kp; iterate 2 exact rfl)
      | apply ja | apply jb | apply jg | apply jj | (apply je; exact rfl) | (apply jf; exact rfl) | apply jd | apply jh | apply ji | (apply jc; kernel_rfl) | apply jk | apply jl | apply jm | apply jn | apply jo | (apply jp; exact rfl) | apply jq | apply jr | apply js | apply jt | apply ju | apply jv | apply jw | apply kN | apply kM
      | (apply kf; iterate 2 exact rfl)
      | (apply ko; (· exact rfl); (· repeat (first | exact mH _ _ | apply mT)); iterate 2 exact rfl)
      | (apply ka; (· exact rfl); (· repeat (first | exact mH _ _ | apply mT)); iterate 2 exact rfl)
      | (apply kr; (· exact rfl); (· repeat (first | exact mH _ _ | apply mT)); iterate 3 exact rfl)
      | (apply ks; (· exact rfl); (· repeat (first | exact mH _ _ | apply mT)); iterate 2 exact rfl)
      | (apply kn; iterate 2 exact rfl)
      | (apply ke; iterate 2 exact rfl)
      | (apply kx; iterate 2 exact rfl)
      | (apply kc; iterate 2 exact rfl)
      | (apply kb; iterate 2 exact rfl)
      | (apply kg; iterate 2 exact rfl)
      | (apply kG; iterate 3 exact rfl)
      | (apply kB; (iterate 2 exact rfl); intro _)
      | (apply kA; exact rfl; intro _)
      | (apply kL; (iterate 3 exact rfl); (· repeat (first | exact BS.nil _ | (apply BS.int; exact rfl) | (apply BS.ptr; exact rfl) | (apply BS.slice; exact rfl) | (apply BS.agg; iterate 2 exact rfl))); intro _)
      | (apply kT; (iterate 2 exact rfl); (· repeat (first | exact sH _ _ _ | apply sT)); iterate 2 exact rfl)
      | (apply kS; (iterate 2 exact rfl); (· repeat (first | exact sH _ _ _ | apply sT)); exact rfl)
      | (apply kh; (iterate 2 exact rfl); (first | decide | omega); exact rfl)
      | (apply kl; (iterate 2 exact rfl); (first | decide | omega); exact rfl)
      )
    | ((first | (apply kR; (· exact rfl); (· exact rfl)) | (apply kQ; (· exact rfl))); all_goals (intro hc; try simp only [decide_eq_true_eq, decide_eq_false_iff_not, Bool.not_eq_true', Bool.not_eq_false', Bool.not_eq_true, Bool.not_eq_false, Bool.not_true, Bool.not_false, Int.not_lt, Int.not_le, List.cons.injEq, and_true, beq_iff_eq, beq_eq_false_iff_ne] at hc; try (exfalso; first | contradiction | omega)))
    )
  apply LR.call
  · exact rfl
  intro w1 h1
  have hh := put_blk (b := b) (first := 0) (slots := (List.replicate 32 zeroA)) (L := []) (l := [⟨textN 1, a1, c1⟩, zeroA]) h1 rfl (by (repeat (first | exact mH _ _ | apply mT))) QRep.start (fun x hx => by
    simp at hx
    rcases hx with rfl | rfl
    · exact osl_MR (x := ⟨textN 1, a1, c1⟩) h1.g1 (text_byt 1 (by omega)) (by simp [textN])
    · exact zeroA_MR w1) (fun x hx k hk => by
    simp at hx
    rcases hx with rfl | rfl
    · exact (front h1 1 rfl rfl).apart (y := qO b 0 (List.replicate 32 zeroA) []) (by (repeat (first | exact mH _ _ | apply mT))) rfl k (St.osl_foot hk)
    · exact absurd rfl hk.1) (by simp)
  rw [qputE_any (x := zeroA) (by simp) zero_bad] at hh
  refine CallsTo.mono hh ?_
  clear hh
  rintro v w2 ⟨s1, L1, rfl, r1, m1, st⟩
  have h2 := h1.one' st rfl (qO_dep _ _ _ _) (by (repeat (first | exact sH _ _ _ | apply sT)))
  refine LR.back (h2.sub (L' := [qO b 0 s1 L1]) (by repeat (first | exact List.Sublist.refl _ | apply List.Sublist.cons_cons | apply List.Sublist.cons))) ?_
  clear h2 h1 st
  have eL1 : L1 = [] := by simpa using m1
  subst eL1
  repeat' (
    first
    | (
      first
      | (apply kp; iterate 2 exact rfl)
      | apply ja | apply jb | apply jg | apply jj | (apply je; exact rfl) | (apply jf; exact rfl) | apply jd | apply jh | apply ji | (apply jc; kernel_rfl) | apply jk | apply jl | apply jm | apply jn | apply jo | (apply jp; exact rfl) | apply jq | apply jr | apply js | apply jt | apply ju | apply jv | apply jw | apply kN | apply kM
      | (apply kf; iterate 2 exact rfl)
      | (apply ko; (· exact rfl); (· repeat (first | exact mH _ _ | apply mT)); iterate 2 exact rfl)
      | (apply ka; (· exact rfl); (· repeat (first | exact mH _ _ | apply mT)); iterate 2 exact rfl)
      | (apply kr; (· exact rfl); (· repeat (first | exact mH _ _ | apply mT)); iterate 3 exact rfl)
      | (apply ks; (· exact rfl); (· repeat (first | exact mH _ _ | apply mT)); iterate 2 exact rfl)
      | (apply kn; iterate 2 exact rfl)
      | (apply ke; iterate 2 exact rfl)
      | (apply kx; iterate 2 exact rfl)
      | (apply kc; iterate 2 exact rfl)
      | (apply kb; iterate 2 exact rfl)
      | (apply kg; iterate 2 exact rfl)
      | (apply kG; iterate 3 exact rfl)
      | (apply kB; (iterate 2 exact rfl); intro _)
      | (apply kA; exact rfl; intro _)
      | (apply kL; (iterate 3 exact rfl); (· repeat (first | exact BS.nil _ | (apply BS.int; exact rfl) | (apply BS.ptr; exact rfl) | (apply BS.slice; exact rfl) | (apply BS.agg; iterate 2 exact rfl))); intro _)
      | (apply kT; (iterate 2 exact rfl); (· repeat (first | exact sH _ _ _ | apply sT)); iterate 2 exact rfl)
      | (apply kS; (iterate 2 exact rfl); (· repeat (first | exact sH _ _ _ | apply sT)); exact rfl)
      | (apply kh; (iterate 2 exact rfl); (first | decide | omega); exact rfl)
      | (apply kl; (iterate 2 exact rfl); (first | decide | omega); exact rfl)
      )
    | ((first | (apply kR; (· exact rfl); (· exact rfl)) | (apply kQ; (· exact rfl))); all_goals (intro hc; try simp only [decide_eq_true_eq, decide_eq_false_iff_not, Bool.not_eq_true', Bool.not_eq_false', Bool.not_eq_true, Bool.not_eq_false, Bool.not_true, Bool.not_false, Int.not_lt, Int.not_le, List.cons.injEq, and_true, beq_iff_eq, beq_eq_false_iff_ne] at hc; try (exfalso; first | contradiction | omega)))
    )
  apply LR.call
  · exact rfl
  intro w1 h1
  refine (c52 0 40 w1 (by omega)).mono ?_
  rintro v w2 ⟨a2, c2, l2, rfl, hl2, st⟩
  refine LR.back (h1.pushL st excl2) ?_
  clear h1 st
  have n2 : l2.length = 40 := by have := congrArg List.length hl2; simpa [textsL] using this
  have k2 := textsL_ok (by omega) hl2
  repeat' (
    first
    | (
      first
      | (apply kp; iterate 2 exact rfl)
      | apply ja | apply jb | apply jg | apply jj | (apply je; exact rfl) | (apply jf; exact rfl) | apply jd | apply jh | apply ji | (apply jc; kernel_rfl) | apply jk | apply jl | apply jm | apply jn | apply jo | (apply jp; exact rfl) | apply jq | apply jr | apply js | apply jt | apply ju | apply jv | apply jw | apply kN | apply kM
      | (apply kf; iterate 2 exact rfl)
      | (apply ko; (· exact rfl); (· repeat (first | exact mH _ _ | apply mT)); iterate 2 exact rfl)
      | (apply ka; (· exact rfl); (· repeat (first | exact mH _ _ | apply mT)); iterate 2 exact rfl)
      | (apply kr; (· exact rfl); (· repeat (first | exact mH _ _ | apply mT)); iterate 3 exact rfl)
      | (apply ks; (· exact rfl); (· repeat (first | exact mH _ _ | apply mT)); iterate 2 exact rfl)
      | (apply kn; iterate 2 exact rfl)
      | (apply ke; iterate 2 exact rfl)
      | (apply kx; iterate 2 exact rfl)
      | (apply kc; iterate 2 exact rfl)
      | (apply kb; iterate 2 exact rfl)
      | (apply kg; iterate 2 exact rfl)
      | (apply kG; iterate 3 exact rfl)
      | (apply kB; (iterate 2 exact rfl); intro _)
      | (apply kA; exact rfl; intro _)
      | (apply kL; (iterate 3 exact rfl); (· repeat (first | exact BS.nil _ | (apply BS.int; exact rfl) | (apply BS.ptr; exact rfl) | (apply BS.slice; exact rfl) | (apply BS.agg; iterate 2 exact rfl))); intro _)
      | (apply kT; (iterate 2 exact rfl); (· repeat (first | exact sH _ _ _ | apply sT)); iterate 2 exact rfl)
      | (apply kS; (iterate 2 exact rfl); (· repeat (first | exact sH _ _ _ | apply sT)); exact rfl)
      | (apply kh; (iterate 2 exact rfl); (first | decide | omega); exact rfl)
      | (apply kl; (iterate 2 exact rfl); (first | decide | omega); exact rfl)
      )
    | ((first | (apply kR; (· exact rfl); (· exact rfl)) | (apply kQ; (· exact rfl))); all_goals (intro hc; try simp only [decide_eq_true_eq, decide_eq_false_iff_not, Bool.not_eq_true', Bool.not_eq_false', Bool.not_eq_true, Bool.not_eq_false, Bool.not_true, Bool.not_false, Int.not_lt, Int.not_le, List.cons.injEq, and_true, beq_iff_eq, beq_eq_false_iff_ne] at hc; try (exfalso; first | contradiction | omega)))
    )
  refine LR.append (xs := l2.flatMap MsgA.row) (news := zeroA.row) (m := 1) rfl rfl (fun a' c' => sT _ (sH _ _ _)) (fun w' hw' => hw'.rd_of_blk (mH _ _)) (fun hx => by cases hx) rfl rfl (by omega) (by unfold maxLen; omega) rfl ?_
  intro ay cy
  repeat' (
    first
    | (
      first
      | (apply kp; iterate 2 exact rfl)
      | apply ja | apply jb | apply jg | apply jj | (apply je; exact rfl) | (apply jf; exact rfl) | apply jd | apply jh | apply ji | (apply jc; kernel_rfl) | apply jk | apply jl | apply jm | apply jn | apply jo | (apply jp; exact rfl) | apply jq | apply jr | apply js | apply jt | apply ju | apply jv | apply jw | apply kN | apply kM
      | (apply kf; iterate 2 exact rfl)
      | (apply ko; (· exact rfl); (· repeat (first | exact mH _ _ | apply mT)); iterate 2 exact rfl)
      | (apply ka; (· exact rfl); (· repeat (first | exact mH _ _ | apply mT)); iterate 2 exact rfl)
      | (apply kr; (· exact rfl); (· repeat (first | exact mH _ _ | apply mT)); iterate 3 exact rfl)
      | (apply ks; (· exact rfl); (· repeat (first | exact mH _ _ | apply mT)); iterate 2 exact rfl)
      | (apply kn; iterate 2 exact rfl)
      | (apply ke; iterate 2 exact rfl)
      | (apply kx; iterate 2 exact rfl)
      | (apply kc; iterate 2 exact rfl)
      | (apply kb; iterate 2 exact rfl)
      | (apply kg; iterate 2 exact rfl)
      | (apply kG; iterate 3 exact rfl)
      | (apply kB; (iterate 2 exact rfl); intro _)
      | (apply kA; exact rfl; intro _)
      | (apply kL; (iterate 3 exact rfl); (· repeat (first | exact BS.nil _ | (apply BS.int; exact rfl) | (apply BS.ptr; exact rfl) | (apply BS.slice; exact rfl) | (apply BS.agg; iterate 2 exact rfl))); intro _)
      | (apply kT; (iterate 2 exact rfl); (· repeat (first | exact sH _ _ _ | apply sT)); iterate 2 exact rfl)
      | (apply kS; (iterate 2 exact rfl); (· repeat (first | exact sH _ _ _ | apply sT)); exact rfl)
      | (apply kh; (iterate 2 exact rfl); (first | decide | omega); exact rfl)
      | (apply kl; (iterate 2 exact rfl); (first | decide | omega); exact rfl)
      )
    | ((first | (apply kR; (· exact rfl); (· exact rfl)) | (apply kQ; (· exact rfl))); all_goals (intro hc; try simp only [decide_eq_true_eq, decide_eq_false_iff_not, Bool.not_eq_true', Bool.not_eq_false', Bool.not_eq_true, Bool.not_eq_false, Bool.not_true, Bool.not_false, Int.not_lt, Int.not_le, List.cons.injEq, and_true, beq_iff_eq, beq_eq_false_iff_ne] at hc; try (exfalso; first | contradiction | omega)))
    )
  apply LR.call
  · exact rfl
  intro w1 h1
  have h3 := front h1 1 rfl rfl
  rw [mS_snoc] at h3
  have el : (l2 ++ [zeroA]).length = l2.length + 1 := by simp
  have hh := c41 b 0 s1 [] ay cy (l2 ++ [zeroA]) w1 (h3.holds _ (by (repeat (first | exact mH _ _ | apply mT)))) r1 (ownsRow_rd h3.g0) (fun k hk => h3.apart (y := qO b 0 s1 []) (by (repeat (first | exact mH _ _ | apply mT))) rfl k (St.osl_foot hk)) (fun x hx => by
    rcases List.mem_append.1 hx with hx | hx
    · exact bun_MR (h3.holds (bunB l2) (by (repeat (first | exact mH _ _ | apply mT)))) (fun y hy => ⟨(k2 y hy).2.1, by rw [(k2 y hy).2.2]; omega⟩) x hx
    · simp at hx; subst hx; exact zeroA_MR w1) (fun x hx k hk => by
    rcases List.mem_append.1 hx with hx | hx
    · exact (front h3 2 rfl rfl).apart (y := qO b 0 s1 []) (by (repeat (first | exact mH _ _ | apply mT))) rfl k (bun_foot hx hk)
    · simp at hx; subst hx; exact absurd rfl hk.1) (by omega)
  rw [qputE_any (x := zeroA) (by simp) zero_bad, el] at hh
  refine CallsTo.mono hh ?_
  clear hh h3
  rintro v w2 ⟨s2, L2, rfl, r2, m2, st⟩
  have h2 := h1.one' st rfl (qO_dep _ _ _ _) (by (repeat (first | exact sH _ _ _ | apply sT)))
  refine LR.back (h2.sub (L' := [qO b 0 s2 L2]) (by repeat (first | exact List.Sublist.refl _ | apply List.Sublist.cons_cons | apply List.Sublist.cons))) ?_
  clear h2 h1 st
  have eL2 : L2 = [] := by simpa using m2
  subst eL2
  repeat' (
    first
    | (
      first
      | (apply kp; iterate 2 exact rfl)
      | apply ja | apply jb | apply jg | apply jj | (apply je; exact rfl) | (apply jf; exact rfl) | apply jd | apply jh | apply ji | (apply jc; kernel_rfl) | apply jk | apply jl | apply jm | apply jn | apply jo | (apply jp; exact rfl) | apply jq | apply jr | apply js | apply jt | apply ju | apply jv | apply jw | apply kN | apply kM
      | (apply kf; iterate 2 exact rfl)
      | (apply ko; (· exact rfl); (· repeat (first | exact mH _ _ | apply mT)); iterate 2 exact rfl)
      | (apply ka; (· exact rfl); (· repeat (first | exact mH _ _ | apply mT)); iterate 2 exact rfl)
      | (apply kr; (· exact rfl); (· repeat (first | exact mH _ _ | apply mT)); iterate 3 exact rfl)
      | (apply ks; (· exact rfl); (· repeat (first | exact mH _ _ | apply mT)); iterate 2 exact rfl)
      | (apply kn; iterate 2 exact rfl)
      | (apply ke; iterate 2 exact rfl)
      | (apply kx; iterate 2 exact rfl)
      | (apply kc; iterate 2 exact rfl)
      | (apply kb; iterate 2 exact rfl)
      | (apply kg; iterate 2 exact rfl)
      | (apply kG; iterate 3 exact rfl)
      | (apply kB; (iterate 2 exact rfl); intro _)
      | (apply kA; exact rfl; intro _)
      | (apply kL; (iterate 3 exact rfl); (· repeat (first | exact BS.nil _ | (apply BS.int; exact rfl) | (apply BS.ptr; exact rfl) | (apply BS.slice; exact rfl) | (apply BS.agg; iterate 2 exact rfl))); intro _)
      | (apply kT; (iterate 2 exact rfl); (· repeat (first | exact sH _ _ _ | apply sT)); iterate 2 exact rfl)
      | (apply kS; (iterate 2 exact rfl); (· repeat (first | exact sH _ _ _ | apply sT)); exact rfl)
      | (apply kh; (iterate 2 exact rfl); (first | decide | omega); exact rfl)
      | (apply kl; (iterate 2 exact rfl); (first | decide | omega); exact rfl)
      )
    | ((first | (apply kR; (· exact rfl); (· exact rfl)) | (apply kQ; (· exact rfl))); all_goals (intro hc; try simp only [decide_eq_true_eq, decide_eq_false_iff_not, Bool.not_eq_true', Bool.not_eq_false', Bool.not_eq_true, Bool.not_eq_false, Bool.not_true, Bool.not_false, Int.not_lt, Int.not_le, List.cons.injEq, and_true, beq_iff_eq, beq_eq_false_iff_ne] at hc; try (exfalso; first | contradiction | omega)))
    )
  apply LR.call
  · exact rfl
  intro w1 h1
  refine (c52 0 33 w1 (by omega)).mono ?_
  rintro v w2 ⟨a3, c3, l3, rfl, hl3, st⟩
  refine LR.back (h1.pushL st excl2) ?_
  clear h1 st
  have n3 : l3.length = 33 := by have := congrArg List.length hl3; simpa [textsL] using this
  have k3 := textsL_ok (by omega) hl3
  repeat' (
    first
    | (
      first
      | (apply kp; iterate 2 exact rfl)
      | apply ja | apply jb | apply jg | apply jj | (apply je; exact rfl) | (apply jf; exact rfl) | apply jd | apply jh | apply ji | (apply jc; kernel_rfl) | apply jk | apply jl | apply jm | apply jn | apply jo | (apply jp; exact rfl) | apply jq | apply jr | apply js | apply jt | apply ju | apply jv | apply jw | apply kN | apply kM
      | (apply kf; iterate 2 exact rfl)
      | (apply ko; (· exact rfl); (· repeat (first | exact mH _ _ | apply mT)); iterate 2 exact rfl)
      | (apply ka; (· exact rfl); (· repeat (first | exact mH _ _ | apply mT)); iterate 2 exact rfl)
      | (apply kr; (· exact rfl); (· repeat (first | exact mH _ _ | apply mT)); iterate 3 exact rfl)
      | (apply ks; (· exact rfl); (· repeat (first | exact mH _ _ | apply mT)); iterate 2 exact rfl)
      | (apply kn; iterate 2 exact rfl)
      | (apply ke; iterate 2 exact rfl)
      | (apply kx; iterate 2 exact rfl)
      | (apply kc; iterate 2 exact rfl)
      | (apply kb; iterate 2 exact rfl)
      | (apply kg; iterate 2 exact rfl)
      | (apply kG; iterate 3 exact rfl)
      | (apply kB; (iterate 2 exact rfl); intro _)
      | (apply kA; exact rfl; intro _)
      | (apply kL; (iterate 3 exact rfl); (· repeat (first | exact BS.nil _ | (apply BS.int; exact rfl) | (apply BS.ptr; exact rfl) | (apply BS.slice; exact rfl) | (apply BS.agg; iterate 2 exact rfl))); intro _)
      | (apply kT; (iterate 2 exact rfl); (· repeat (first | exact sH _ _ _ | apply sT)); iterate 2 exact rfl)
      | (apply kS; (iterate 2 exact rfl); (· repeat (first | exact sH _ _ _ | apply sT)); exact rfl)
      | (apply kh; (iterate 2 exact rfl); (first | decide | omega); exact rfl)
      | (apply kl; (iterate 2 exact rfl); (first | decide | omega); exact rfl)
      )
    | ((first | (apply kR; (· exact rfl); (· exact rfl)) | (apply kQ; (· exact rfl))); all_goals (intro hc; try simp only [decide_eq_true_eq, decide_eq_false_iff_not, Bool.not_eq_true', Bool.not_eq_false', Bool.not_eq_true, Bool.not_eq_false, Bool.not_true, Bool.not_false, Int.not_lt, Int.not_le, List.cons.injEq, and_true, beq_iff_eq, beq_eq_false_iff_ne] at hc; try (exfalso; first | contradiction | omega)))
    )
  apply LR.call
  · exact rfl
  intro w1 h1
  have hh := put_lent (b := b) (first := 0) (slots := s2) (L := []) (al := a3) (cl := c3) (l := l3) h1 (mH _ _) r2 (fun x hx => ⟨(k3 x hx).2.1, by rw [(k3 x hx).2.2]; omega⟩) (by omega)
  rw [qputE_full (n := ([] : List MsgA).length) (fun x hx => (k3 x hx).1) (by simp; omega) (by simp)] at hh
  refine CallsTo.mono hh ?_
  clear hh
  rintro v w2 ⟨s3, L3, rfl, r3, m3, st⟩
  have h2 := h1.one' st rfl (qO_dep _ _ _ _) (by (repeat (first | exact sH _ _ _ | apply sT)))
  refine LR.back (h2.sub (L' := [qO b 0 s3 L3]) (by repeat (first | exact List.Sublist.refl _ | apply List.Sublist.cons_cons | apply List.Sublist.cons))) ?_
  clear h2 h1 st
  have eL3 : L3 = [] := by simpa using m3
  subst eL3
  repeat' (
    first
    | (
      first
      | (apply kp; iterate 2 exact rfl)
      | apply ja | apply jb | apply jg | apply jj | (apply je; exact rfl) | (apply jf; exact rfl) | apply jd | apply jh | apply ji | (apply jc; kernel_rfl) | apply jk | apply jl | apply jm | apply jn | apply jo | (apply jp; exact rfl) | apply jq | apply jr | apply js | apply jt | apply ju | apply jv | apply jw | apply kN | apply kM
      | (apply kf; iterate 2 exact rfl)
      | (apply ko; (· exact rfl); (· repeat (first | exact mH _ _ | apply mT)); iterate 2 exact rfl)
      | (apply ka; (· exact rfl); (· repeat (first | exact mH _ _ | apply mT)); iterate 2 exact rfl)
      | (apply kr; (· exact rfl); (· repeat (first | exact mH _ _ | apply mT)); iterate 3 exact rfl)
      | (apply ks; (· exact rfl); (· repeat (first | exact mH _ _ | apply mT)); iterate 2 exact rfl)
      | (apply kn; iterate 2 exact rfl)
      | (apply ke; iterate 2 exact rfl)
      | (apply kx; iterate 2 exact rfl)
      | (apply kc; iterate 2 exact rfl)
      | (apply kb; iterate 2 exact rfl)
      | (apply kg; iterate 2 exact rfl)
      | (apply kG; iterate 3 exact rfl)
      | (apply kB; (iterate 2 exact rfl); intro _)
      | (apply kA; exact rfl; intro _)
      | (apply kL; (iterate 3 exact rfl); (· repeat (first | exact BS.nil _ | (apply BS.int; exact rfl) | (apply BS.ptr; exact rfl) | (apply BS.slice; exact rfl) | (apply BS.agg; iterate 2 exact rfl))); intro _)
      | (apply kT; (iterate 2 exact rfl); (· repeat (first | exact sH _ _ _ | apply sT)); iterate 2 exact rfl)
      | (apply kS; (iterate 2 exact rfl); (· repeat (first | exact sH _ _ _ | apply sT)); exact rfl)
      | (apply kh; (iterate 2 exact rfl); (first | decide | omega); exact rfl)
      | (apply kl; (iterate 2 exact rfl); (first | decide | omega); exact rfl)
      )
    | (apply kq; (· exact rfl); (· intro w1 h1; first | exact CallsTo.q (c46 b 0 0 s3 w1 (qO_rd (h1.holds (qO b 0 s3 []) (by (repeat (first | exact mH _ _ | apply mT)))))) h1 | exact CallsTo.q (c48 b 0 0 s3 w1 (qO_rd (h1.holds (qO b 0 s3 []) (by (repeat (first | exact mH _ _ | apply mT))))) (by omega)) h1))
    | ((first | (apply kR; (· exact rfl); (· exact rfl)) | (apply kQ; (· exact rfl))); all_goals (intro hc; try simp only [decide_eq_true_eq, decide_eq_false_iff_not, Bool.not_eq_true', Bool.not_eq_false', Bool.not_eq_true, Bool.not_eq_false, Bool.not_true, Bool.not_false, Int.not_lt, Int.not_le, List.cons.injEq, and_true, beq_iff_eq, beq_eq_false_iff_ne] at hc; try (exfalso; first | contradiction | omega)))
    )
  apply LR.call
  · exact rfl
  intro w1 h1
  refine CallsTo.mono (put_none (b := b) (first := 0) (slots := s3) (L := []) h1 (mH _ _) r3) ?_
  rintro v w2 ⟨s4, L4, rfl, r4, m4, st⟩
  have h2 := h1.one' st rfl (qO_dep _ _ _ _) (by (repeat (first | exact sH _ _ _ | apply sT)))
  refine LR.back (h2.sub (L' := [qO b 0 s4 L4]) (by repeat (first | exact List.Sublist.refl _ | apply List.Sublist.cons_cons | apply List.Sublist.cons))) ?_
  clear h2 h1 st
  have eL4 : L4 = [] := by simpa using m4
  subst eL4
  repeat' (
    first
    | (
      first
      | (apply kp; iterate 2 exact rfl)
      | apply ja | apply jb | apply jg | apply jj | (apply je; exact rfl) | (apply jf; exact rfl) | apply jd | apply jh | apply ji | (apply jc; kernel_rfl) | apply jk | apply jl | apply jm | apply jn | apply jo | (apply jp; exact rfl) | apply jq | apply jr | apply js | apply jt | apply ju | apply jv | apply jw | apply kN | apply kM
      | (apply kf; iterate 2 exact rfl)
      | (apply ko; (· exact rfl); (· repeat (first | exact mH _ _ | apply mT)); iterate 2 exact rfl)
      | (apply ka; (· exact rfl); (· repeat (first | exact mH _ _ | apply mT)); iterate 2 exact rfl)
      | (apply kr; (· exact rfl); (· repeat (first | exact mH _ _ | apply mT)); iterate 3 exact rfl)
      | (apply ks; (· exact rfl); (· repeat (first | exact mH _ _ | apply mT)); iterate 2 exact rfl)
      | (apply kn; iterate 2 exact rfl)
      | (apply ke; iterate 2 exact rfl)
      | (apply kx; iterate 2 exact rfl)
      | (apply kc; iterate 2 exact rfl)
      | (apply kb; iterate 2 exact rfl)
      | (apply kg; iterate 2 exact rfl)
      | (apply kG; iterate 3 exact rfl)
      | (apply kB; (iterate 2 exact rfl); intro _)
      | (apply kA; exact rfl; intro _)
      | (apply kL; (iterate 3 exact rfl); (· repeat (first | exact BS.nil _ | (apply BS.int; exact rfl) | (apply BS.ptr; exact rfl) | (apply BS.slice; exact rfl) | (apply BS.agg; iterate 2 exact rfl))); intro _)
      | (apply kT; (iterate 2 exact rfl); (· repeat (first | exact sH _ _ _ | apply sT)); iterate 2 exact rfl)
      | (apply kS; (iterate 2 exact rfl); (· repeat (first | exact sH _ _ _ | apply sT)); exact rfl)
      | (apply kh; (iterate 2 exact rfl); (first | decide | omega); exact rfl)
      | (apply kl; (iterate 2 exact rfl); (first | decide | omega); exact rfl)
      )
    | ((first | (apply kR; (· exact rfl); (· exact rfl)) | (apply kQ; (· exact rfl))); all_goals (intro hc; try simp only [decide_eq_true_eq, decide_eq_false_iff_not, Bool.not_eq_true', Bool.not_eq_false', Bool.not_eq_true, Bool.not_eq_false, Bool.not_true, Bool.not_false, Int.not_lt, Int.not_le, List.cons.injEq, and_true, beq_iff_eq, beq_eq_false_iff_ne] at hc; try (exfalso; first | contradiction | omega)))
    )
  apply LR.call
  · exact rfl
  intro w1 h1
  refine (c52 0 32 w1 (by omega)).mono ?_
  rintro v w2 ⟨a5, c5, l5, rfl, hl5, st⟩
  refine LR.back (h1.pushL st excl2) ?_
  clear h1 st
  have n5 : l5.length = 32 := by have := congrArg List.length hl5; simpa [textsL] using this
  have k5 := textsL_ok (by omega) hl5
  repeat' (
    first
    | (
      first
      | (apply kp; iterate 2 exact rfl)
      | apply ja | apply jb | apply jg | apply jj | (apply je; exact rfl) | (apply jf; exact rfl) | apply jd | apply jh | apply ji | (apply jc; kernel_rfl) | apply jk | apply jl | apply jm | apply jn | apply jo | (apply jp; exact rfl) | apply jq | apply jr | apply js | apply jt | apply ju | apply jv | apply jw | apply kN | apply kM
      | (apply kf; iterate 2 exact rfl)
      | (apply ko; (· exact rfl); (· repeat (first | exact mH _ _ | apply mT)); iterate 2 exact rfl)
      | (apply ka; (· exact rfl); (· repeat (first | exact mH _ _ | apply mT)); iterate 2 exact rfl)
      | (apply kr; (· exact rfl); (· repeat (first | exact mH _ _ | apply mT)); iterate 3 exact rfl)
      | (apply ks; (· exact rfl); (· repeat (first | exact mH _ _ | apply mT)); iterate 2 exact rfl)
      | (apply kn; iterate 2 exact rfl)
      | (apply ke; iterate 2 exact rfl)
      | (apply kx; iterate 2 exact rfl)
      | (apply kc; iterate 2 exact rfl)
      | (apply kb; iterate 2 exact rfl)
      | (apply kg; iterate 2 exact rfl)
      | (apply kG; iterate 3 exact rfl)
      | (apply kB; (iterate 2 exact rfl); intro _)
      | (apply kA; exact rfl; intro _)
      | (apply kL; (iterate 3 exact rfl); (· repeat (first | exact BS.nil _ | (apply BS.int; exact rfl) | (apply BS.ptr; exact rfl) | (apply BS.slice; exact rfl) | (apply BS.agg; iterate 2 exact rfl))); intro _)
      | (apply kT; (iterate 2 exact rfl); (· repeat (first | exact sH _ _ _ | apply sT)); iterate 2 exact rfl)
      | (apply kS; (iterate 2 exact rfl); (· repeat (first | exact sH _ _ _ | apply sT)); exact rfl)
      | (apply kh; (iterate 2 exact rfl); (first | decide | omega); exact rfl)
      | (apply kl; (iterate 2 exact rfl); (first | decide | omega); exact rfl)
      )
    | ((first | (apply kR; (· exact rfl); (· exact rfl)) | (apply kQ; (· exact rfl))); all_goals (intro hc; try simp only [decide_eq_true_eq, decide_eq_false_iff_not, Bool.not_eq_true', Bool.not_eq_false', Bool.not_eq_true, Bool.not_eq_false, Bool.not_true, Bool.not_false, Int.not_lt, Int.not_le, List.cons.injEq, and_true, beq_iff_eq, beq_eq_false_iff_ne] at hc; try (exfalso; first | contradiction | omega)))
    )
  apply LR.call
  · exact rfl
  intro w1 h1
  have hh := put_lent (b := b) (first := 0) (slots := s4) (L := []) (al := a5) (cl := c5) (l := l5) h1 (mH _ _) r4 (fun x hx => ⟨(k5 x hx).2.1, by rw [(k5 x hx).2.2]; omega⟩) (by omega)
  rw [qputE_ok (n := ([] : List MsgA).length) (fun x hx => (k5 x hx).1) (by simp; omega)] at hh
  refine CallsTo.mono hh ?_
  clear hh
  rintro v w2 ⟨s5, L5, rfl, r5, m5, st⟩
  have h2 := h1.one' st rfl (qO_dep _ _ _ _) (by (repeat (first | exact sH _ _ _ | apply sT)))
  refine LR.back (h2.sub (L' := [qO b 0 s5 L5]) (by repeat (first | exact List.Sublist.refl _ | apply List.Sublist.cons_cons | apply List.Sublist.cons))) ?_
  clear h2 h1 st
  repeat' (
    first
    | (
      first
      | (apply kp; iterate 2 exact rfl)
      | apply ja | apply jb | apply jg | apply jj | (apply je; exact rfl) | (apply jf; exact rfl) | apply jd | apply jh | apply ji | (apply jc; kernel_rfl) | apply jk | apply jl | apply jm | apply jn | apply jo | (apply jp; exact rfl) | apply jq | apply jr | apply js | apply jt | apply ju | apply jv | apply jw | apply kN | apply kM
      | (apply kf; iterate 2 exact rfl)
      | (apply ko; (· exact rfl); (· repeat (first | exact mH _ _ | apply mT)); iterate 2 exact rfl)
      | (apply ka; (· exact rfl); (· repeat (first | exact mH _ _ | apply mT)); iterate 2 exact rfl)
      | (apply kr; (· exact rfl); (· repeat (first | exact mH _ _ | apply mT)); iterate 3 exact rfl)
      | (apply ks; (· exact rfl); (· repeat (first | exact mH _ _ | apply mT)); iterate 2 exact rfl)
      | (apply kn; iterate 2 exact rfl)
      | (apply ke; iterate 2 exact rfl)
      | (apply kx; iterate 2 exact rfl)
      | (apply kc; iterate 2 exact rfl)
      | (apply kb; iterate 2 exact rfl)
      | (apply kg; iterate 2 exact rfl)
      | (apply kG; iterate 3 exact rfl)
      | (apply kB; (iterate 2 exact rfl); intro _)
      | (apply kA; exact rfl; intro _)
      | (apply kL; (iterate 3 exact rfl); (· repeat (first | exact BS.nil _ | (apply BS.int; exact rfl) | (apply BS.ptr; exact rfl) | (apply BS.slice; exact rfl) | (apply BS.agg; iterate 2 exact rfl))); intro _)
      | (apply kT; (iterate 2 exact rfl); (· repeat (first | exact sH _ _ _ | apply sT)); iterate 2 exact rfl)
      | (apply kS; (iterate 2 exact rfl); (· repeat (first | exact sH _ _ _ | apply sT)); exact rfl)
      | (apply kh; (iterate 2 exact rfl); (first | decide | omega); exact rfl)
      | (apply kl; (iterate 2 exact rfl); (first | decide | omega); exact rfl)
      )
    | ((first | (apply kR; (· exact rfl); (· exact rfl)) | (apply kQ; (· exact rfl))); all_goals (intro hc; try simp only [decide_eq_true_eq, decide_eq_false_iff_not, Bool.not_eq_true', Bool.not_eq_false', Bool.not_eq_true, Bool.not_eq_false, Bool.not_true, Bool.not_false, Int.not_lt, Int.not_le, List.cons.injEq, and_true, beq_iff_eq, beq_eq_false_iff_ne] at hc; try (exfalso; first | contradiction | omega)))
    )
  apply LR.call
  · exact rfl
  intro w1 h1
  refine CallsTo.mono (put_none (b := b) (first := 0) (slots := s5) (L := L5) h1 (mH _ _) r5) ?_
  rintro v w2 ⟨s6, L6, rfl, r6, m6, st⟩
  have h2 := h1.one' st rfl (qO_dep _ _ _ _) (by (repeat (first | exact sH _ _ _ | apply sT)))
  refine LR.back (h2.sub (L' := [qO b 0 s6 L6]) (by repeat (first | exact List.Sublist.refl _ | apply List.Sublist.cons_cons | apply List.Sublist.cons))) ?_
  clear h2 h1 st
  have m7 : L6.map MsgA.m = textsL 0 32 := by rw [m6, m5, if_pos rfl, hl5]; rfl
  have q6 : L6.length = 32 := by have := congrArg List.length m7; simpa [textsL] using this
  repeat' (
    first
    | (
      first
      | (apply kp; iterate 2 exact rfl)
      | apply ja | apply jb | apply jg | apply jj | (apply je; exact rfl) | (apply jf; exact rfl) | apply jd | apply jh | apply ji | (apply jc; kernel_rfl) | apply jk | apply jl | apply jm | apply jn | apply jo | (apply jp; exact rfl) | apply jq | apply jr | apply js | apply jt | apply ju | apply jv | apply jw | apply kN | apply kM
      | (apply kf; iterate 2 exact rfl)
      | (apply ko; (· exact rfl); (· repeat (first | exact mH _ _ | apply mT)); iterate 2 exact rfl)
      | (apply ka; (· exact rfl); (· repeat (first | exact mH _ _ | apply mT)); iterate 2 exact rfl)
      | (apply kr; (· exact rfl); (· repeat (first | exact mH _ _ | apply mT)); iterate 3 exact rfl)
      | (apply ks; (· exact rfl); (· repeat (first | exact mH _ _ | apply mT)); iterate 2 exact rfl)
      | (apply kn; iterate 2 exact rfl)
      | (apply ke; iterate 2 exact rfl)
      | (apply kx; iterate 2 exact rfl)
      | (apply kc; iterate 2 exact rfl)
      | (apply kb; iterate 2 exact rfl)
      | (apply kg; iterate 2 exact rfl)
      | (apply kG; iterate 3 exact rfl)
      | (apply kB; (iterate 2 exact rfl); intro _)
      | (apply kA; exact rfl; intro _)
      | (apply kL; (iterate 3 exact rfl); (· repeat (first | exact BS.nil _ | (apply BS.int; exact rfl) | (apply BS.ptr; exact rfl) | (apply BS.slice; exact rfl) | (apply BS.agg; iterate 2 exact rfl))); intro _)
      | (apply kT; (iterate 2 exact rfl); (· repeat (first | exact sH _ _ _ | apply sT)); iterate 2 exact rfl)
      | (apply kS; (iterate 2 exact rfl); (· repeat (first | exact sH _ _ _ | apply sT)); exact rfl)
      | (apply kh; (iterate 2 exact rfl); (first | decide | omega); exact rfl)
      | (apply kl; (iterate 2 exact rfl); (first | decide | omega); exact rfl)
      )
    | ((first | (apply kR; (· exact rfl); (· exact rfl)) | (apply kQ; (· exact rfl))); all_goals (intro hc; try simp only [decide_eq_true_eq, decide_eq_false_iff_not, Bool.not_eq_true', Bool.not_eq_false', Bool.not_eq_true, Bool.not_eq_false, Bool.not_true, Bool.not_false, Int.not_lt, Int.not_le, List.cons.injEq, and_true, beq_iff_eq, beq_eq_false_iff_ne] at hc; try (exfalso; first | contradiction | omega)))
    )
  apply LR.call
  · exact rfl
  intro w1 h1
  refine (c51 9 w1 (by decide)).mono ?_
  rintro v w2 ⟨a7, c7, rfl, hn1⟩
  refine LR.back (h1.newSl hn1) ?_
  clear hn1 h1
  repeat' (
    first
    | (
      first
      | (apply kp; iterate 2 exact rfl)
      | apply ja | apply jb | apply jg | apply jj | (apply je; exact rfl) | (apply jf; exact rfl) | apply jd | apply jh | apply ji | (apply jc; kernel_rfl) | apply jk | apply jl | apply jm | apply jn | apply jo | (apply jp; exact rfl) | apply jq | apply jr | apply js | apply jt | apply ju | apply jv | apply jw | apply kN | apply kM
      | (apply kf; iterate 2 exact rfl)
      | (apply ko; (· exact rfl); (· repeat (first | exact mH _ _ | apply mT)); iterate 2 exact rfl)
      | (apply ka; (· exact rfl); (· repeat (first | exact mH _ _ | apply mT)); iterate 2 exact rfl)
      | (apply kr; (· exact rfl); (· repeat (first | exact mH _ _ | apply mT)); iterate 3 exact rfl)
      | (apply ks; (· exact rfl); (· repeat (first | exact mH _ _ | apply mT)); iterate 2 exact rfl)
      | (apply kn; iterate 2 exact rfl)
      | (apply ke; iterate 2 exact rfl)
      | (apply kx; iterate 2 exact rfl)
      | (apply kc; iterate 2 exact rfl)
      | (apply kb; iterate 2 exact rfl)
      | (apply kg; iterate 2 exact rfl)
      | (apply kG; iterate 3 exact rfl)
      | (apply kB; (iterate 2 exact rfl); intro _)
      | (apply kA; exact rfl; intro _)
      | (apply kL; (iterate 3 exact rfl); (· repeat (first | exact BS.nil _ | (apply BS.int; exact rfl) | (apply BS.ptr; exact rfl) | (apply BS.slice; exact rfl) | (apply BS.agg; iterate 2 exact rfl))); intro _)
      | (apply kT; (iterate 2 exact rfl); (· repeat (first | exact sH _ _ _ | apply sT)); iterate 2 exact rfl)
      | (apply kS; (iterate 2 exact rfl); (· repeat (first | exact sH _ _ _ | apply sT)); exact rfl)
      | (apply kh; (iterate 2 exact rfl); (first | decide | omega); exact rfl)
      | (apply kl; (iterate 2 exact rfl); (first | decide | omega); exact rfl)
      )
    | ((first | (apply kR; (· exact rfl); (· exact rfl)) | (apply kQ; (· exact rfl))); all_goals (intro hc; try simp only [decide_eq_true_eq, decide_eq_false_iff_not, Bool.not_eq_true', Bool.not_eq_false', Bool.not_eq_true, Bool.not_eq_false, Bool.not_true, Bool.not_false, Int.not_lt, Int.not_le, List.cons.injEq, and_true, beq_iff_eq, beq_eq_false_iff_ne] at hc; try (exfalso; first | contradiction | omega)))
    )
  apply LR.call
  · exact rfl
  intro w1 h1
  have hh := put_blk (b := b) (first := 0) (slots := s6) (L := L6) (l := [⟨textN 9, a7, c7⟩]) h1 rfl (by (repeat (first | exact mH _ _ | apply mT))) r6 (fun x hx => by
    simp at hx
    subst hx
    exact osl_MR (x := ⟨textN 9, a7, c7⟩) h1.g1 (text_byt 9 (by omega)) (by simp [textN])) (fun x hx k hk => by
    simp at hx
    subst hx
    exact (front h1 1 rfl rfl).apart (y := qO b 0 s6 L6) (by (repeat (first | exact mH _ _ | apply mT))) rfl k (St.osl_foot hk)) (by simp)
  rw [qputE_full (n := L6.length) (fun x hx => by simp at hx; subst hx; exact check_text 9 (by omega)) (by simp; omega) (by omega)] at hh
  refine CallsTo.mono hh ?_
  clear hh
  rintro v w2 ⟨s7, L7, rfl, r7, m8, st⟩
  have h2 := h1.one' st rfl (qO_dep _ _ _ _) (by (repeat (first | exact sH _ _ _ | apply sT)))
  refine LR.back (h2.sub (L' := [qO b 0 s7 L7]) (by repeat (first | exact List.Sublist.refl _ | apply List.Sublist.cons_cons | apply List.Sublist.cons))) ?_
  clear h2 h1 st
  have m9 : L7.map MsgA.m = textsL 0 32 := by rw [m8, m7]; simp
  repeat' (
    first
    | (
      first
      | (apply kp; iterate 2 exact rfl)
      | apply ja | apply jb | apply jg | apply jj | (apply je; exact rfl) | (apply jf; exact rfl) | apply jd | apply jh | apply ji | (apply jc; kernel_rfl) | apply jk | apply jl | apply jm | apply jn | apply jo | (apply jp; exact rfl) | apply jq | apply jr | apply js | apply jt | apply ju | apply jv | apply jw | apply kN | apply kM
      | (apply kf; iterate 2 exact rfl)
      | (apply ko; (· exact rfl); (· repeat (first | exact mH _ _ | apply mT)); iterate 2 exact rfl)
      | (apply ka; (· exact rfl); (· repeat (first | exact mH _ _ | apply mT)); iterate 2 exact rfl)
      | (apply kr; (· exact rfl); (· repeat (first | exact mH _ _ | apply mT)); iterate 3 exact rfl)
      | (apply ks; (· exact rfl); (· repeat (first | exact mH _ _ | apply mT)); iterate 2 exact rfl)
      | (apply kn; iterate 2 exact rfl)
      | (apply ke; iterate 2 exact rfl)
      | (apply kx; iterate 2 exact rfl)
      | (apply kc; iterate 2 exact rfl)
      | (apply kb; iterate 2 exact rfl)
      | (apply kg; iterate 2 exact rfl)
      | (apply kG; iterate 3 exact rfl)
      | (apply kB; (iterate 2 exact rfl); intro _)
      | (apply kA; exact rfl; intro _)
      | (apply kL; (iterate 3 exact rfl); (· repeat (first | exact BS.nil _ | (apply BS.int; exact rfl) | (apply BS.ptr; exact rfl) | (apply BS.slice; exact rfl) | (apply BS.agg; iterate 2 exact rfl))); intro _)
      | (apply kT; (iterate 2 exact rfl); (· repeat (first | exact sH _ _ _ | apply sT)); iterate 2 exact rfl)
      | (apply kS; (iterate 2 exact rfl); (· repeat (first | exact sH _ _ _ | apply sT)); exact rfl)
      | (apply kh; (iterate 2 exact rfl); (first | decide | omega); exact rfl)
      | (apply kl; (iterate 2 exact rfl); (first | decide | omega); exact rfl)
      )
    | ((first | (apply kR; (· exact rfl); (· exact rfl)) | (apply kQ; (· exact rfl))); all_goals (intro hc; try simp only [decide_eq_true_eq, decide_eq_false_iff_not, Bool.not_eq_true', Bool.not_eq_false', Bool.not_eq_true, Bool.not_eq_false, Bool.not_true, Bool.not_false, Int.not_lt, Int.not_le, List.cons.injEq, and_true, beq_iff_eq, beq_eq_false_iff_ne] at hc; try (exfalso; first | contradiction | omega)))
    )
  apply CW.loop [0, 5, 6, 7, 72, 73, 74, 75, 76, 77, 78, 79, 80, 81, 82, 83, 84, 85, 86, 87, 88, 89, 90, 91, 92, 93, 94, 95, 96, 97, 98, 99, 100, 101, 102, 103] (fun s : Nat × Nat × List MsgA × List MsgA => s.1 ≤ 100 ∧ QRep s.2.1 s.2.2.1 s.2.2.2 ∧ s.2.2.2.map MsgA.m = textsL s.1 32) (fun s => [(5, Value.int .i64 (s.1 : Int))])
    (fun s => St w NoF [qO b s.2.1 s.2.2.1 s.2.2.2]) (fun s => 100 - s.1)
  · exact fun w' hw' => ⟨(0, 0, s7, L7), ⟨by simp, r7, m9⟩, ⟨rfl, trivial⟩, hw'⟩
  rintro ⟨i, first, sl, L0⟩ g ⟨hi, rr, mm⟩
  simp only at hi rr mm ⊢
  by_cases hlt : i < 100
  · rw [textsL_cons] at mm
    rcases L0 with _ | ⟨x, L⟩
    · simp at mm
    simp only [List.map_cons, List.cons.injEq] at mm
    obtain ⟨mx, mL⟩ := mm
    have qL : L.length = 31 := by have := congrArg List.length mL; simpa [textsL] using this
    have hxm : x.m.body.length ≤ 140737488355328 := by rw [mx]; simp [textN]
    have h7a := and7 i (by omega)
    have h7b := and7 (32 + i) (by omega)
    rw [show ((32 + i : Nat) : Int) = 32 + (i : Int) from rfl] at h7b
    repeat' (
      first
      | (
        first
        | (apply kp; iterate 2 exact rfl)
        | apply ja | apply jb | apply jg | apply jj | (apply je; exact rfl) | (apply jf; exact rfl) | apply jd | apply jh | apply ji | (apply jc; kernel_rfl) | apply jk | apply jl | apply jm | apply jn | apply jo | (apply jp; exact rfl) | apply jq | apply jr | apply js | apply jt | apply ju | apply jv | apply jw | apply kN | apply kM
        | (apply kf; iterate 2 exact rfl)
        | (apply ko; (· exact rfl); (· repeat (first | exact mH _ _ | apply mT)); iterate 2 exact rfl)
        | (apply ka; (· exact rfl); (· repeat (first | exact mH _ _ | apply mT)); iterate 2 exact rfl)
        | (apply kr; (· exact rfl); (· repeat (first | exact mH _ _ | apply mT)); iterate 3 exact rfl)
        | (apply ks; (· exact rfl); (· repeat (first | exact mH _ _ | apply mT)); iterate 2 exact rfl)
        | (apply kn; iterate 2 exact rfl)
        | (apply ke; iterate 2 exact rfl)
        | (apply kx; iterate 2 exact rfl)
        | (apply kc; iterate 2 exact rfl)
        | (apply kb; iterate 2 exact rfl)
        | (apply kg; iterate 2 exact rfl)
        | (apply kG; iterate 3 exact rfl)
        | (apply kB; (iterate 2 exact rfl); intro _)
        | (apply kA; exact rfl; intro _)
        | (apply kL; (iterate 3 exact rfl); (· repeat (first | exact BS.nil _ | (apply BS.int; exact rfl) | (apply BS.ptr; exact rfl) | (apply BS.slice; exact rfl) | (apply BS.agg; iterate 2 exact rfl))); intro _)
        | (apply kT; (iterate 2 exact rfl); (· repeat (first | exact sH _ _ _ | apply sT)); iterate 2 exact rfl)
        | (apply kS; (iterate 2 exact rfl); (· repeat (first | exact sH _ _ _ | apply sT)); exact rfl)
        | (apply kh; (iterate 2 exact rfl); (first | decide | omega); exact rfl)
        | (apply kl; (iterate 2 exact rfl); (first | decide | omega); exact rfl)
        )
      | ((first | (apply kR; (· exact rfl); (· exact rfl)) | (apply kQ; (· exact rfl))); all_goals (intro hc; try simp only [decide_eq_true_eq, decide_eq_false_iff_not, Bool.not_eq_true', Bool.not_eq_false', Bool.not_eq_true, Bool.not_eq_false, Bool.not_true, Bool.not_false, Int.not_lt, Int.not_le, List.cons.injEq, and_true, beq_iff_eq, beq_eq_false_iff_ne] at hc; try (exfalso; first | contradiction | omega)))
      )
    apply LR.call
    · exact rfl
    intro w1 h1
    refine (take_own b first sl L x w1 (h1.holds (qO b first sl (x :: L)) (by (repeat (first | exact mH _ _ | apply mT)))) rr).mono ?_
    rintro v w2 ⟨rfl, sl2, rr2, st⟩
    have h2 := h1.two st rfl rfl rfl (by (repeat (first | exact sH _ _ _ | apply sT)))
    refine LR.back h2 ?_
    clear h2 h1 st
    repeat' (
      first
      | (apply CW.reg_held (St w NoF [.own _ (.cells (x.m.cells x.a x.c).toArray 28 (0, 0))]))
      | (
        first
        | (apply kp; iterate 2 exact rfl)
        | apply ja | apply jb | apply jg | apply jj | (apply je; exact rfl) | (apply jf; exact rfl) | apply jd | apply jh | apply ji | (apply jc; kernel_rfl) | apply jk | apply jl | apply jm | apply jn | apply jo | (apply jp; exact rfl) | apply jq | apply jr | apply js | apply jt | apply ju | apply jv | apply jw | apply kN | apply kM
        | (apply kf; iterate 2 exact rfl)
        | (apply ko; (· exact rfl); (· repeat (first | exact mH _ _ | apply mT)); iterate 2 exact rfl)
        | (apply ka; (· exact rfl); (· repeat (first | exact mH _ _ | apply mT)); iterate 2 exact rfl)
        | (apply kr; (· exact rfl); (· repeat (first | exact mH _ _ | apply mT)); iterate 3 exact rfl)
        | (apply ks; (· exact rfl); (· repeat (first | exact mH _ _ | apply mT)); iterate 2 exact rfl)
        | (apply kn; iterate 2 exact rfl)
        | (apply ke; iterate 2 exact rfl)
        | (apply kx; iterate 2 exact rfl)
        | (apply kc; iterate 2 exact rfl)
        | (apply kb; iterate 2 exact rfl)
        | (apply kg; iterate 2 exact rfl)
        | (apply kG; iterate 3 exact rfl)
        | (apply kB; (iterate 2 exact rfl); intro _)
        | (apply kA; exact rfl; intro _)
        | (apply kL; (iterate 3 exact rfl); (· repeat (first | exact BS.nil _ | (apply BS.int; exact rfl) | (apply BS.ptr; exact rfl) | (apply BS.slice; exact rfl) | (apply BS.agg; iterate 2 exact rfl))); intro _)
        | (apply kT; (iterate 2 exact rfl); (· repeat (first | exact sH _ _ _ | apply sT)); iterate 2 exact rfl)
        | (apply kS; (iterate 2 exact rfl); (· repeat (first | exact sH _ _ _ | apply sT)); exact rfl)
        | (apply kh; (iterate 2 exact rfl); (first | decide | omega); exact rfl)
        | (apply kl; (iterate 2 exact rfl); (first | decide | omega); exact rfl)
        )
      | ((first | (apply kR; (· exact rfl); (· exact rfl)) | (apply kQ; (· exact rfl))); all_goals (intro hc; try simp only [decide_eq_true_eq, decide_eq_false_iff_not, Bool.not_eq_true', Bool.not_eq_false', Bool.not_eq_true, Bool.not_eq_false, Bool.not_true, Bool.not_false, Int.not_lt, Int.not_le, List.cons.injEq, and_true, beq_iff_eq, beq_eq_false_iff_ne] at hc; try (exfalso; first | contradiction | omega)))
      )
    all_goals (
      apply DW.quiet [0, 1, 2, 3, 4]
      · decide +kernel
      · first | exact fun _ h => h | exact fun _ h => St.sub h (by repeat (first | exact List.Sublist.refl _ | apply List.Sublist.cons_cons | apply List.Sublist.cons))
      repeat' (
        first
        | (apply yp; iterate 3 exact rfl)
        | (apply QL.ev; exact rfl
           · first
             | (apply Ev.load_own; (· exact rfl); (· repeat (first | exact mH _ _ | apply mT)); exact rfl)
             | (apply Ev.load_agg; (· exact rfl); (· repeat (first | exact mH _ _ | apply mT)); exact rfl)
             | (apply Ev.load_rdq; (· exact rfl); (· repeat (first | exact mH _ _ | apply mT)); iterate 2 exact rfl)
             | (apply Ev.load_ardq; (· exact rfl); (· repeat (first | exact mH _ _ | apply mT)); exact rfl)
             | (apply Ev.fieldAddr; exact rfl)
             | (apply Ev.len; exact rfl)
             | (apply EqOf.eq; exact rfl)
             | (apply EqOf.ne; exact rfl)
             | (apply Ev.conv; exact rfl)
             | (apply Ev.buildN; exact rfl)
             | (apply Ev.shr; (iterate 2 exact rfl); first | decide | omega)
             | (apply Ev.shl; (iterate 2 exact rfl); first | decide | omega)
           · exact rfl)
        | (apply QL.evg; (iterate 3 exact rfl); (· apply Ev.add; (· exact rfl); (· exact rfl); (· omega); (· omega)); (· exact rfl))
        | (apply yq; iterate 5 exact rfl)
        | (apply QL.evg; iterate 3 exact rfl
           · first
             | (apply Ev.load_own; (· exact rfl); (· repeat (first | exact mH _ _ | apply mT)); exact rfl)
             | (apply Ev.load_agg; (· exact rfl); (· repeat (first | exact mH _ _ | apply mT)); exact rfl)
             | (apply Ev.load_rdq; (· exact rfl); (· repeat (first | exact mH _ _ | apply mT)); iterate 2 exact rfl)
             | (apply Ev.load_ardq; (· exact rfl); (· repeat (first | exact mH _ _ | apply mT)); exact rfl)
             | (apply Ev.fieldAddr; exact rfl)
             | (apply Ev.len; exact rfl)
             | (apply EqOf.eq; exact rfl)
             | (apply EqOf.ne; exact rfl)
             | (apply Ev.conv; exact rfl)
             | (apply Ev.buildN; exact rfl)
             | (apply Ev.shr; (iterate 2 exact rfl); first | decide | omega)
             | (apply Ev.shl; (iterate 2 exact rfl); first | decide | omega)
           · exact rfl)
        | (apply yn; iterate 4 exact rfl)
        | ((apply QL.split; (· exact rfl); (· exact rfl); (· exact rfl)); all_goals (intro hc; try simp only [decide_eq_true_eq, decide_eq_false_iff_not, Bool.not_eq_true', Bool.not_eq_false', Bool.not_eq_true, Bool.not_eq_false, Bool.not_true, Bool.not_false, Int.not_lt, Int.not_le, List.cons.injEq, and_true, beq_iff_eq, beq_eq_false_iff_ne] at hc; try (exfalso; first | contradiction | omega)))
        | apply QL.nil
        )
      all_goals (show DW _ _ _ _ _ _ _ _))
    all_goals (
      apply DW.loud 5
      · exact rfl
      · decide +kernel
      repeat' (
        first
        | (apply kg; iterate 2 exact rfl)
        | (apply kG; iterate 3 exact rfl)
        | apply kM
        | (
          first
          | (apply kp; iterate 2 exact rfl)
          | (apply ko; (· exact rfl); (· repeat (first | exact mH _ _ | apply mT)); iterate 2 exact rfl)
          | (apply ka; (· exact rfl); (· repeat (first | exact mH _ _ | apply mT)); iterate 2 exact rfl)
          | (apply kL; (iterate 3 exact rfl); (· repeat (first | exact BS.nil _ | (apply BS.int; exact rfl) | (apply BS.ptr; exact rfl) | (apply BS.slice; exact rfl) | (apply BS.agg; iterate 2 exact rfl))); intro _)
          | (apply kT; (iterate 2 exact rfl); (· repeat (first | exact sH _ _ _ | apply sT)); iterate 2 exact rfl)
          | (apply kS; (iterate 2 exact rfl); (· repeat (first | exact sH _ _ _ | apply sT)); exact rfl)
          | (apply kB; (iterate 2 exact rfl); intro _)
          | (apply kA; exact rfl; intro _)
          )
        | (apply LR.call; (· exact rfl); (intro w1 h1; refine (c51 ((i : Int)) w1 h7a).mono ?_; rintro v w2 ⟨aA, cA, rfl, hn1⟩; refine LR.back (h1.newSl hn1) ?_; clear hn1 h1; apply kM))
        | (apply LR.call; (· exact rfl); (intro w1 h1; refine (c51 (32 + (i : Int)) w1 h7b).mono ?_; rintro v w2 ⟨aB, cB, rfl, hn1⟩; refine LR.back (h1.newSl hn1) ?_; clear hn1 h1; apply kM))
        | (apply kq; (· exact rfl); (· intro w1 h1; have hq := CallsTo.q (c20 x.m (textN (i : Int)) x.a aA x.c cA w1 (h1.rd_of_own (by (repeat (first | exact mH _ _ | apply mT)))) (h1.rd_of_own (by (repeat (first | exact mH _ _ | apply mT)))) hxm) h1; rw [show sameB x.m (textN (i : Int)) = true by rw [mx]; exact sameB_self _] at hq; show CallsTo Try.prog 20 [x.m.val x.a x.c, (textN (i : Int)).val aA cA] w1 _; exact hq))
        | (apply LR.call; (· exact rfl); (intro w1 h1; have hh := put_blk (b := b) (first := (first + 1) % 32) (slots := sl2) (L := L) (l := [⟨textN (32 + (i : Int)), aB, cB⟩]) h1 rfl (by (repeat (first | exact mH _ _ | apply mT))) rr2 (fun x hx => by (simp at hx; subst hx; exact osl_MR (x := ⟨textN (32 + (i : Int)), aB, cB⟩) h1.g1 (text_byt (32 + i) (by omega)) (by simp [textN]))) (fun x hx k hk => by (simp at hx; subst hx; exact (front h1 1 rfl rfl).apart (y := qO b ((first + 1) % 32) sl2 L) (by (repeat (first | exact mH _ _ | apply mT))) rfl k (St.osl_foot hk))) (by simp); rw [qputE_ok (n := L.length) (l := [⟨textN (32 + (i : Int)), aB, cB⟩]) (fun x hx => by (simp at hx; subst hx; exact check_text (32 + i) (by omega))) (by simp; omega)] at hh; refine CallsTo.mono hh ?_; clear hh; rintro v w2 ⟨sl3, L3, rfl, rr3, mm3, st⟩; have h2 := h1.one' st rfl (qO_dep _ _ _ _) (by (repeat (first | exact sH _ _ _ | apply sT))); refine LR.back h2 ?_; clear h2 h1 st; have qq3 : L3.length = 32 := (by have := congrArg List.length mm3; simp at this; omega); apply kM))
        | (apply kq; (· exact rfl); (· intro w1 h1; exact CallsTo.q (c46 b ((first + 1) % 32) 32 sl3 w1 (by (have hq := qO_rd (h1.holds (qO b ((first + 1) % 32) sl3 L3) (by (repeat (first | exact mH _ _ | apply mT)))); rw [qq3] at hq; exact hq))) h1))
        )
      all_goals (refine At.stage_same (fun _ h => St.sub h (by repeat (first | exact List.Sublist.refl _ | apply List.Sublist.cons_cons | apply List.Sublist.cons))) ?_))
    all_goals (
      apply DW.loud 6
      · exact rfl
      · decide +kernel
      repeat' (
        first
        | (apply kg; iterate 2 exact rfl)
        | (apply kG; iterate 3 exact rfl)
        | apply kM
        | (
          first
          | (apply kp; iterate 2 exact rfl)
          | (apply ko; (· exact rfl); (· repeat (first | exact mH _ _ | apply mT)); iterate 2 exact rfl)
          | (apply ka; (· exact rfl); (· repeat (first | exact mH _ _ | apply mT)); iterate 2 exact rfl)
          | (apply kL; (iterate 3 exact rfl); (· repeat (first | exact BS.nil _ | (apply BS.int; exact rfl) | (apply BS.ptr; exact rfl) | (apply BS.slice; exact rfl) | (apply BS.agg; iterate 2 exact rfl))); intro _)
          | (apply kT; (iterate 2 exact rfl); (· repeat (first | exact sH _ _ _ | apply sT)); iterate 2 exact rfl)
          | (apply kS; (iterate 2 exact rfl); (· repeat (first | exact sH _ _ _ | apply sT)); exact rfl)
          | (apply kB; (iterate 2 exact rfl); intro _)
          | (apply kA; exact rfl; intro _)
          )
        | (apply LR.call; (· exact rfl); (intro w1 h1; refine (c51 ((i : Int)) w1 h7a).mono ?_; rintro v w2 ⟨aA, cA, rfl, hn1⟩; refine LR.back (h1.newSl hn1) ?_; clear hn1 h1; apply kM))
        | (apply LR.call; (· exact rfl); (intro w1 h1; refine (c51 (32 + (i : Int)) w1 h7b).mono ?_; rintro v w2 ⟨aB, cB, rfl, hn1⟩; refine LR.back (h1.newSl hn1) ?_; clear hn1 h1; apply kM))
        | (apply kq; (· exact rfl); (· intro w1 h1; have hq := CallsTo.q (c20 x.m (textN (i : Int)) x.a aA x.c cA w1 (h1.rd_of_own (by (repeat (first | exact mH _ _ | apply mT)))) (h1.rd_of_own (by (repeat (first | exact mH _ _ | apply mT)))) hxm) h1; rw [show sameB x.m (textN (i : Int)) = true by rw [mx]; exact sameB_self _] at hq; show CallsTo Try.prog 20 [x.m.val x.a x.c, (textN (i : Int)).val aA cA] w1 _; exact hq))
        | (apply LR.call; (· exact rfl); (intro w1 h1; have hh := put_blk (b := b) (first := (first + 1) % 32) (slots := sl2) (L := L) (l := [⟨textN (32 + (i : Int)), aB, cB⟩]) h1 rfl (by (repeat (first | exact mH _ _ | apply mT))) rr2 (fun x hx => by (simp at hx; subst hx; exact osl_MR (x := ⟨textN (32 + (i : Int)), aB, cB⟩) h1.g1 (text_byt (32 + i) (by omega)) (by simp [textN]))) (fun x hx k hk => by (simp at hx; subst hx; exact (front h1 1 rfl rfl).apart (y := qO b ((first + 1) % 32) sl2 L) (by (repeat (first | exact mH _ _ | apply mT))) rfl k (St.osl_foot hk))) (by simp); rw [qputE_ok (n := L.length) (l := [⟨textN (32 + (i : Int)), aB, cB⟩]) (fun x hx => by (simp at hx; subst hx; exact check_text (32 + i) (by omega))) (by simp; omega)] at hh; refine CallsTo.mono hh ?_; clear hh; rintro v w2 ⟨sl3, L3, rfl, rr3, mm3, st⟩; have h2 := h1.one' st rfl (qO_dep _ _ _ _) (by (repeat (first | exact sH _ _ _ | apply sT))); refine LR.back h2 ?_; clear h2 h1 st; have qq3 : L3.length = 32 := (by have := congrArg List.length mm3; simp at this; omega); apply kM))
        | (apply kq; (· exact rfl); (· intro w1 h1; exact CallsTo.q (c46 b ((first + 1) % 32) 32 sl3 w1 (by (have hq := qO_rd (h1.holds (qO b ((first + 1) % 32) sl3 L3) (by (repeat (first | exact mH _ _ | apply mT)))); rw [qq3] at hq; exact hq))) h1))
        )
      all_goals (refine At.stage_same (fun _ h => St.sub h (by repeat (first | exact List.Sublist.refl _ | apply List.Sublist.cons_cons | apply List.Sublist.cons))) ?_))
    all_goals (
      apply DW.quiet [7, 8, 9, 10, 11, 12]
      · decide +kernel
      · first | exact fun _ h => h | exact fun _ h => St.sub h (by repeat (first | exact List.Sublist.refl _ | apply List.Sublist.cons_cons | apply List.Sublist.cons))
      repeat' (
        first
        | (apply yp; iterate 3 exact rfl)
        | (apply QL.ev; exact rfl
           · first
             | (apply Ev.load_own; (· exact rfl); (· repeat (first | exact mH _ _ | apply mT)); exact rfl)
             | (apply Ev.load_agg; (· exact rfl); (· repeat (first | exact mH _ _ | apply mT)); exact rfl)
             | (apply Ev.load_rdq; (· exact rfl); (· repeat (first | exact mH _ _ | apply mT)); iterate 2 exact rfl)
             | (apply Ev.load_ardq; (· exact rfl); (· repeat (first | exact mH _ _ | apply mT)); exact rfl)
             | (apply Ev.fieldAddr; exact rfl)
             | (apply Ev.len; exact rfl)
             | (apply EqOf.eq; exact rfl)
             | (apply EqOf.ne; exact rfl)
             | (apply Ev.conv; exact rfl)
             | (apply Ev.buildN; exact rfl)
             | (apply Ev.shr; (iterate 2 exact rfl); first | decide | omega)
             | (apply Ev.shl; (iterate 2 exact rfl); first | decide | omega)
           · exact rfl)
        | (apply QL.evg; (iterate 3 exact rfl); (· apply Ev.add; (· exact rfl); (· exact rfl); (· omega); (· omega)); (· exact rfl))
        | (apply yq; iterate 5 exact rfl)
        | (apply QL.evg; iterate 3 exact rfl
           · first
             | (apply Ev.load_own; (· exact rfl); (· repeat (first | exact mH _ _ | apply mT)); exact rfl)
             | (apply Ev.load_agg; (· exact rfl); (· repeat (first | exact mH _ _ | apply mT)); exact rfl)
             | (apply Ev.load_rdq; (· exact rfl); (· repeat (first | exact mH _ _ | apply mT)); iterate 2 exact rfl)
             | (apply Ev.load_ardq; (· exact rfl); (· repeat (first | exact mH _ _ | apply mT)); exact rfl)
             | (apply Ev.fieldAddr; exact rfl)
             | (apply Ev.len; exact rfl)
             | (apply EqOf.eq; exact rfl)
             | (apply EqOf.ne; exact rfl)
             | (apply Ev.conv; exact rfl)
             | (apply Ev.buildN; exact rfl)
             | (apply Ev.shr; (iterate 2 exact rfl); first | decide | omega)
             | (apply Ev.shl; (iterate 2 exact rfl); first | decide | omega)
           · exact rfl)
        | (apply yn; iterate 4 exact rfl)
        | ((apply QL.split; (· exact rfl); (· exact rfl); (· exact rfl)); all_goals (intro hc; try simp only [decide_eq_true_eq, decide_eq_false_iff_not, Bool.not_eq_true', Bool.not_eq_false', Bool.not_eq_true, Bool.not_eq_false, Bool.not_true, Bool.not_false, Int.not_lt, Int.not_le, List.cons.injEq, and_true, beq_iff_eq, beq_eq_false_iff_ne] at hc; try (exfalso; first | contradiction | omega)))
        | apply QL.nil
        )
      all_goals (show DW _ _ _ _ _ _ _ _))
    all_goals (
      apply DW.loud 13
      · exact rfl
      · decide +kernel
      repeat' (
        first
        | (apply kg; iterate 2 exact rfl)
        | (apply kG; iterate 3 exact rfl)
        | apply kM
        | (
          first
          | (apply kp; iterate 2 exact rfl)
          | (apply ko; (· exact rfl); (· repeat (first | exact mH _ _ | apply mT)); iterate 2 exact rfl)
          | (apply ka; (· exact rfl); (· repeat (first | exact mH _ _ | apply mT)); iterate 2 exact rfl)
          | (apply kL; (iterate 3 exact rfl); (· repeat (first | exact BS.nil _ | (apply BS.int; exact rfl) | (apply BS.ptr; exact rfl) | (apply BS.slice; exact rfl) | (apply BS.agg; iterate 2 exact rfl))); intro _)
          | (apply kT; (iterate 2 exact rfl); (· repeat (first | exact sH _ _ _ | apply sT)); iterate 2 exact rfl)
          | (apply kS; (iterate 2 exact rfl); (· repeat (first | exact sH _ _ _ | apply sT)); exact rfl)
          | (apply kB; (iterate 2 exact rfl); intro _)
          | (apply kA; exact rfl; intro _)
          )
        | (apply LR.call; (· exact rfl); (intro w1 h1; refine (c51 ((i : Int)) w1 h7a).mono ?_; rintro v w2 ⟨aA, cA, rfl, hn1⟩; refine LR.back (h1.newSl hn1) ?_; clear hn1 h1; apply kM))
        | (apply LR.call; (· exact rfl); (intro w1 h1; refine (c51 (32 + (i : Int)) w1 h7b).mono ?_; rintro v w2 ⟨aB, cB, rfl, hn1⟩; refine LR.back (h1.newSl hn1) ?_; clear hn1 h1; apply kM))
        | (apply kq; (· exact rfl); (· intro w1 h1; have hq := CallsTo.q (c20 x.m (textN (i : Int)) x.a aA x.c cA w1 (h1.rd_of_own (by (repeat (first | exact mH _ _ | apply mT)))) (h1.rd_of_own (by (repeat (first | exact mH _ _ | apply mT)))) hxm) h1; rw [show sameB x.m (textN (i : Int)) = true by rw [mx]; exact sameB_self _] at hq; show CallsTo Try.prog 20 [x.m.val x.a x.c, (textN (i : Int)).val aA cA] w1 _; exact hq))
        | (apply LR.call; (· exact rfl); (intro w1 h1; have hh := put_blk (b := b) (first := (first + 1) % 32) (slots := sl2) (L := L) (l := [⟨textN (32 + (i : Int)), aB, cB⟩]) h1 rfl (by (repeat (first | exact mH _ _ | apply mT))) rr2 (fun x hx => by (simp at hx; subst hx; exact osl_MR (x := ⟨textN (32 + (i : Int)), aB, cB⟩) h1.g1 (text_byt (32 + i) (by omega)) (by simp [textN]))) (fun x hx k hk => by (simp at hx; subst hx; exact (front h1 1 rfl rfl).apart (y := qO b ((first + 1) % 32) sl2 L) (by (repeat (first | exact mH _ _ | apply mT))) rfl k (St.osl_foot hk))) (by simp); rw [qputE_ok (n := L.length) (l := [⟨textN (32 + (i : Int)), aB, cB⟩]) (fun x hx => by (simp at hx; subst hx; exact check_text (32 + i) (by omega))) (by simp; omega)] at hh; refine CallsTo.mono hh ?_; clear hh; rintro v w2 ⟨sl3, L3, rfl, rr3, mm3, st⟩; have h2 := h1.one' st rfl (qO_dep _ _ _ _) (by (repeat (first | exact sH _ _ _ | apply sT))); refine LR.back h2 ?_; clear h2 h1 st; have qq3 : L3.length = 32 := (by have := congrArg List.length mm3; simp at this; omega); apply kM))
        | (apply kq; (· exact rfl); (· intro w1 h1; exact CallsTo.q (c46 b ((first + 1) % 32) 32 sl3 w1 (by (have hq := qO_rd (h1.holds (qO b ((first + 1) % 32) sl3 L3) (by (repeat (first | exact mH _ _ | apply mT)))); rw [qq3] at hq; exact hq))) h1))
        )
      all_goals (refine At.stage_same (fun _ h => St.sub h (by repeat (first | exact List.Sublist.refl _ | apply List.Sublist.cons_cons | apply List.Sublist.cons))) ?_))
    all_goals (
      apply DW.loud 14
      · exact rfl
      · decide +kernel
      repeat' (
        first
        | (apply kg; iterate 2 exact rfl)
        | (apply kG; iterate 3 exact rfl)
        | apply kM
        | (
          first
          | (apply kp; iterate 2 exact rfl)
          | (apply ko; (· exact rfl); (· repeat (first | exact mH _ _ | apply mT)); iterate 2 exact rfl)
          | (apply ka; (· exact rfl); (· repeat (first | exact mH _ _ | apply mT)); iterate 2 exact rfl)
          | (apply kL; (iterate 3 exact rfl); (· repeat (first | exact BS.nil _ | (apply BS.int; exact rfl) | (apply BS.ptr; exact rfl) | (apply BS.slice; exact rfl) | (apply BS.agg; iterate 2 exact rfl))); intro _)
          | (apply kT; (iterate 2 exact rfl); (· repeat (first | exact sH _ _ _ | apply sT)); iterate 2 exact rfl)
          | (apply kS; (iterate 2 exact rfl); (· repeat (first | exact sH _ _ _ | apply sT)); exact rfl)
          | (apply kB; (iterate 2 exact rfl); intro _)
          | (apply kA; exact rfl; intro _)
          )
        | (apply LR.call; (· exact rfl); (intro w1 h1; refine (c51 ((i : Int)) w1 h7a).mono ?_; rintro v w2 ⟨aA, cA, rfl, hn1⟩; refine LR.back (h1.newSl hn1) ?_; clear hn1 h1; apply kM))
        | (apply LR.call; (· exact rfl); (intro w1 h1; refine (c51 (32 + (i : Int)) w1 h7b).mono ?_; rintro v w2 ⟨aB, cB, rfl, hn1⟩; refine LR.back (h1.newSl hn1) ?_; clear hn1 h1; apply kM))
        | (apply kq; (· exact rfl); (· intro w1 h1; have hq := CallsTo.q (c20 x.m (textN (i : Int)) x.a aA x.c cA w1 (h1.rd_of_own (by (repeat (first | exact mH _ _ | apply mT)))) (h1.rd_of_own (by (repeat (first | exact mH _ _ | apply mT)))) hxm) h1; rw [show sameB x.m (textN (i : Int)) = true by rw [mx]; exact sameB_self _] at hq; show CallsTo Try.prog 20 [x.m.val x.a x.c, (textN (i : Int)).val aA cA] w1 _; exact hq))
        | (apply LR.call; (· exact rfl); (intro w1 h1; have hh := put_blk (b := b) (first := (first + 1) % 32) (slots := sl2) (L := L) (l := [⟨textN (32 + (i : Int)), aB, cB⟩]) h1 rfl (by (repeat (first | exact mH _ _ | apply mT))) rr2 (fun x hx => by (simp at hx; subst hx; exact osl_MR (x := ⟨textN (32 + (i : Int)), aB, cB⟩) h1.g1 (text_byt (32 + i) (by omega)) (by simp [textN]))) (fun x hx k hk => by (simp at hx; subst hx; exact (front h1 1 rfl rfl).apart (y := qO b ((first + 1) % 32) sl2 L) (by (repeat (first | exact mH _ _ | apply mT))) rfl k (St.osl_foot hk))) (by simp); rw [qputE_ok (n := L.length) (l := [⟨textN (32 + (i : Int)), aB, cB⟩]) (fun x hx => by (simp at hx; subst hx; exact check_text (32 + i) (by omega))) (by simp; omega)] at hh; refine CallsTo.mono hh ?_; clear hh; rintro v w2 ⟨sl3, L3, rfl, rr3, mm3, st⟩; have h2 := h1.one' st rfl (qO_dep _ _ _ _) (by (repeat (first | exact sH _ _ _ | apply sT))); refine LR.back h2 ?_; clear h2 h1 st; have qq3 : L3.length = 32 := (by have := congrArg List.length mm3; simp at this; omega); apply kM))
        | (apply kq; (· exact rfl); (· intro w1 h1; exact CallsTo.q (c46 b ((first + 1) % 32) 32 sl3 w1 (by (have hq := qO_rd (h1.holds (qO b ((first + 1) % 32) sl3 L3) (by (repeat (first | exact mH _ _ | apply mT)))); rw [qq3] at hq; exact hq))) h1))
        )
      all_goals (refine At.stage_same (fun _ h => St.sub h (by repeat (first | exact List.Sublist.refl _ | apply List.Sublist.cons_cons | apply List.Sublist.cons))) ?_))
    all_goals (
      apply DW.loud 15
      · exact rfl
      · decide +kernel
      repeat' (
        first
        | (apply kg; iterate 2 exact rfl)
        | (apply kG; iterate 3 exact rfl)
        | apply kM
        | (
          first
          | (apply kp; iterate 2 exact rfl)
          | (apply ko; (· exact rfl); (· repeat (first | exact mH _ _ | apply mT)); iterate 2 exact rfl)
          | (apply ka; (· exact rfl); (· repeat (first | exact mH _ _ | apply mT)); iterate 2 exact rfl)
          | (apply kL; (iterate 3 exact rfl); (· repeat (first | exact BS.nil _ | (apply BS.int; exact rfl) | (apply BS.ptr; exact rfl) | (apply BS.slice; exact rfl) | (apply BS.agg; iterate 2 exact rfl))); intro _)
          | (apply kT; (iterate 2 exact rfl); (· repeat (first | exact sH _ _ _ | apply sT)); iterate 2 exact rfl)
          | (apply kS; (iterate 2 exact rfl); (· repeat (first | exact sH _ _ _ | apply sT)); exact rfl)
          | (apply kB; (iterate 2 exact rfl); intro _)
          | (apply kA; exact rfl; intro _)
          )
        | (apply LR.call; (· exact rfl); (intro w1 h1; refine (c51 ((i : Int)) w1 h7a).mono ?_; rintro v w2 ⟨aA, cA, rfl, hn1⟩; refine LR.back (h1.newSl hn1) ?_; clear hn1 h1; apply kM))
        | (apply LR.call; (· exact rfl); (intro w1 h1; refine (c51 (32 + (i : Int)) w1 h7b).mono ?_; rintro v w2 ⟨aB, cB, rfl, hn1⟩; refine LR.back (h1.newSl hn1) ?_; clear hn1 h1; apply kM))
        | (apply kq; (· exact rfl); (· intro w1 h1; have hq := CallsTo.q (c20 x.m (textN (i : Int)) x.a aA x.c cA w1 (h1.rd_of_own (by (repeat (first | exact mH _ _ | apply mT)))) (h1.rd_of_own (by (repeat (first | exact mH _ _ | apply mT)))) hxm) h1; rw [show sameB x.m (textN (i : Int)) = true by rw [mx]; exact sameB_self _] at hq; show CallsTo Try.prog 20 [x.m.val x.a x.c, (textN (i : Int)).val aA cA] w1 _; exact hq))
        | (apply LR.call; (· exact rfl); (intro w1 h1; have hh := put_blk (b := b) (first := (first + 1) % 32) (slots := sl2) (L := L) (l := [⟨textN (32 + (i : Int)), aB, cB⟩]) h1 rfl (by (repeat (first | exact mH _ _ | apply mT))) rr2 (fun x hx => by (simp at hx; subst hx; exact osl_MR (x := ⟨textN (32 + (i : Int)), aB, cB⟩) h1.g1 (text_byt (32 + i) (by omega)) (by simp [textN]))) (fun x hx k hk => by (simp at hx; subst hx; exact (front h1 1 rfl rfl).apart (y := qO b ((first + 1) % 32) sl2 L) (by (repeat (first | exact mH _ _ | apply mT))) rfl k (St.osl_foot hk))) (by simp); rw [qputE_ok (n := L.length) (l := [⟨textN (32 + (i : Int)), aB, cB⟩]) (fun x hx => by (simp at hx; subst hx; exact check_text (32 + i) (by omega))) (by simp; omega)] at hh; refine CallsTo.mono hh ?_; clear hh; rintro v w2 ⟨sl3, L3, rfl, rr3, mm3, st⟩; have h2 := h1.one' st rfl (qO_dep _ _ _ _) (by (repeat (first | exact sH _ _ _ | apply sT))); refine LR.back h2 ?_; clear h2 h1 st; have qq3 : L3.length = 32 := (by have := congrArg List.length mm3; simp at this; omega); apply kM))
        | (apply kq; (· exact rfl); (· intro w1 h1; exact CallsTo.q (c46 b ((first + 1) % 32) 32 sl3 w1 (by (have hq := qO_rd (h1.holds (qO b ((first + 1) % 32) sl3 L3) (by (repeat (first | exact mH _ _ | apply mT)))); rw [qq3] at hq; exact hq))) h1))
        )
      all_goals (refine At.stage_same (fun _ h => St.sub h (by repeat (first | exact List.Sublist.refl _ | apply List.Sublist.cons_cons | apply List.Sublist.cons))) ?_))
    all_goals (
      apply DW.quiet [16, 17, 18, 19]
      · decide +kernel
      · first | exact fun _ h => h | exact fun _ h => St.sub h (by repeat (first | exact List.Sublist.refl _ | apply List.Sublist.cons_cons | apply List.Sublist.cons))
      repeat' (
        first
        | (apply yp; iterate 3 exact rfl)
        | (apply QL.ev; exact rfl
           · first
             | (apply Ev.load_own; (· exact rfl); (· repeat (first | exact mH _ _ | apply mT)); exact rfl)
             | (apply Ev.load_agg; (· exact rfl); (· repeat (first | exact mH _ _ | apply mT)); exact rfl)
             | (apply Ev.load_rdq; (· exact rfl); (· repeat (first | exact mH _ _ | apply mT)); iterate 2 exact rfl)
             | (apply Ev.load_ardq; (· exact rfl); (· repeat (first | exact mH _ _ | apply mT)); exact rfl)
             | (apply Ev.fieldAddr; exact rfl)
             | (apply Ev.len; exact rfl)
             | (apply EqOf.eq; exact rfl)
             | (apply EqOf.ne; exact rfl)
             | (apply Ev.conv; exact rfl)
             | (apply Ev.buildN; exact rfl)
             | (apply Ev.shr; (iterate 2 exact rfl); first | decide | omega)
             | (apply Ev.shl; (iterate 2 exact rfl); first | decide | omega)
           · exact rfl)
        | (apply QL.evg; (iterate 3 exact rfl); (· apply Ev.add; (· exact rfl); (· exact rfl); (· omega); (· omega)); (· exact rfl))
        | (apply yq; iterate 5 exact rfl)
        | (apply QL.evg; iterate 3 exact rfl
           · first
             | (apply Ev.load_own; (· exact rfl); (· repeat (first | exact mH _ _ | apply mT)); exact rfl)
             | (apply Ev.load_agg; (· exact rfl); (· repeat (first | exact mH _ _ | apply mT)); exact rfl)
             | (apply Ev.load_rdq; (· exact rfl); (· repeat (first | exact mH _ _ | apply mT)); iterate 2 exact rfl)
             | (apply Ev.load_ardq; (· exact rfl); (· repeat (first | exact mH _ _ | apply mT)); exact rfl)
             | (apply Ev.fieldAddr; exact rfl)
             | (apply Ev.len; exact rfl)
             | (apply EqOf.eq; exact rfl)
             | (apply EqOf.ne; exact rfl)
             | (apply Ev.conv; exact rfl)
             | (apply Ev.buildN; exact rfl)
             | (apply Ev.shr; (iterate 2 exact rfl); first | decide | omega)
             | (apply Ev.shl; (iterate 2 exact rfl); first | decide | omega)
           · exact rfl)
        | (apply yn; iterate 4 exact rfl)
        | ((apply QL.split; (· exact rfl); (· exact rfl); (· exact rfl)); all_goals (intro hc; try simp only [decide_eq_true_eq, decide_eq_false_iff_not, Bool.not_eq_true', Bool.not_eq_false', Bool.not_eq_true, Bool.not_eq_false, Bool.not_true, Bool.not_false, Int.not_lt, Int.not_le, List.cons.injEq, and_true, beq_iff_eq, beq_eq_false_iff_ne] at hc; try (exfalso; first | contradiction | omega)))
        | apply QL.nil
        )
      all_goals (show DW _ _ _ _ _ _ _ _))
    all_goals (
      apply DW.loud 20
      · exact rfl
      · decide +kernel
      repeat' (
        first
        | (apply kg; iterate 2 exact rfl)
        | (apply kG; iterate 3 exact rfl)
        | apply kM
        | (
          first
          | (apply kp; iterate 2 exact rfl)
          | (apply ko; (· exact rfl); (· repeat (first | exact mH _ _ | apply mT)); iterate 2 exact rfl)
          | (apply ka; (· exact rfl); (· repeat (first | exact mH _ _ | apply mT)); iterate 2 exact rfl)
          | (apply kL; (iterate 3 exact rfl); (· repeat (first | exact BS.nil _ | (apply BS.int; exact rfl) | (apply BS.ptr; exact rfl) | (apply BS.slice; exact rfl) | (apply BS.agg; iterate 2 exact rfl))); intro _)
          | (apply kT; (iterate 2 exact rfl); (· repeat (first | exact sH _ _ _ | apply sT)); iterate 2 exact rfl)
          | (apply kS; (iterate 2 exact rfl); (· repeat (first | exact sH _ _ _ | apply sT)); exact rfl)
          | (apply kB; (iterate 2 exact rfl); intro _)
          | (apply kA; exact rfl; intro _)
          )
        | (apply LR.call; (· exact rfl); (intro w1 h1; refine (c51 ((i : Int)) w1 h7a).mono ?_; rintro v w2 ⟨aA, cA, rfl, hn1⟩; refine LR.back (h1.newSl hn1) ?_; clear hn1 h1; apply kM))
        | (apply LR.call; (· exact rfl); (intro w1 h1; refine (c51 (32 + (i : Int)) w1 h7b).mono ?_; rintro v w2 ⟨aB, cB, rfl, hn1⟩; refine LR.back (h1.newSl hn1) ?_; clear hn1 h1; apply kM))
        | (apply kq; (· exact rfl); (· intro w1 h1; have hq := CallsTo.q (c20 x.m (textN (i : Int)) x.a aA x.c cA w1 (h1.rd_of_own (by (repeat (first | exact mH _ _ | apply mT)))) (h1.rd_of_own (by (repeat (first | exact mH _ _ | apply mT)))) hxm) h1; rw [show sameB x.m (textN (i : Int)) = true by rw [mx]; exact sameB_self _] at hq; show CallsTo Try.prog 20 [x.m.val x.a x.c, (textN (i : Int)).val aA cA] w1 _; exact hq))
        | (apply LR.call; (· exact rfl); (intro w1 h1; have hh := put_blk (b := b) (first := (first + 1) % 32) (slots := sl2) (L := L) (l := [⟨textN (32 + (i : Int)), aB, cB⟩]) h1 rfl (by (repeat (first | exact mH _ _ | apply mT))) rr2 (fun x hx => by (simp at hx; subst hx; exact osl_MR (x := ⟨textN (32 + (i : Int)), aB, cB⟩) h1.g1 (text_byt (32 + i) (by omega)) (by simp [textN]))) (fun x hx k hk => by (simp at hx; subst hx; exact (front h1 1 rfl rfl).apart (y := qO b ((first + 1) % 32) sl2 L) (by (repeat (first | exact mH _ _ | apply mT))) rfl k (St.osl_foot hk))) (by simp); rw [qputE_ok (n := L.length) (l := [⟨textN (32 + (i : Int)), aB, cB⟩]) (fun x hx => by (simp at hx; subst hx; exact check_text (32 + i) (by omega))) (by simp; omega)] at hh; refine CallsTo.mono hh ?_; clear hh; rintro v w2 ⟨sl3, L3, rfl, rr3, mm3, st⟩; have h2 := h1.one' st rfl (qO_dep _ _ _ _) (by (repeat (first | exact sH _ _ _ | apply sT))); refine LR.back h2 ?_; clear h2 h1 st; have qq3 : L3.length = 32 := (by have := congrArg List.length mm3; simp at this; omega); apply kM))
        | (apply kq; (· exact rfl); (· intro w1 h1; exact CallsTo.q (c46 b ((first + 1) % 32) 32 sl3 w1 (by (have hq := qO_rd (h1.holds (qO b ((first + 1) % 32) sl3 L3) (by (repeat (first | exact mH _ _ | apply mT)))); rw [qq3] at hq; exact hq))) h1))
        )
      all_goals (refine At.stage_same (fun _ h => St.sub h (by repeat (first | exact List.Sublist.refl _ | apply List.Sublist.cons_cons | apply List.Sublist.cons))) ?_))
    all_goals (
      apply DW.quiet [21, 22]
      · decide +kernel
      · first | exact fun _ h => h | exact fun _ h => St.sub h (by repeat (first | exact List.Sublist.refl _ | apply List.Sublist.cons_cons | apply List.Sublist.cons))
      repeat' (
        first
        | (apply yp; iterate 3 exact rfl)
        | (apply QL.ev; exact rfl
           · first
             | (apply Ev.load_own; (· exact rfl); (· repeat (first | exact mH _ _ | apply mT)); exact rfl)
             | (apply Ev.load_agg; (· exact rfl); (· repeat (first | exact mH _ _ | apply mT)); exact rfl)
             | (apply Ev.load_rdq; (· exact rfl); (· repeat (first | exact mH _ _ | apply mT)); iterate 2 exact rfl)
             | (apply Ev.load_ardq; (· exact rfl); (· repeat (first | exact mH _ _ | apply mT)); exact rfl)
             | (apply Ev.fieldAddr; exact rfl)
             | (apply Ev.len; exact rfl)
             | (apply EqOf.eq; exact rfl)
             | (apply EqOf.ne; exact rfl)
             | (apply Ev.conv; exact rfl)
             | (apply Ev.buildN; exact rfl)
             | (apply Ev.shr; (iterate 2 exact rfl); first | decide | omega)
             | (apply Ev.shl; (iterate 2 exact rfl); first | decide | omega)
           · exact rfl)
        | (apply QL.evg; (iterate 3 exact rfl); (· apply Ev.add; (· exact rfl); (· exact rfl); (· omega); (· omega)); (· exact rfl))
        | (apply yq; iterate 5 exact rfl)
        | (apply QL.evg; iterate 3 exact rfl
           · first
             | (apply Ev.load_own; (· exact rfl); (· repeat (first | exact mH _ _ | apply mT)); exact rfl)
             | (apply Ev.load_agg; (· exact rfl); (· repeat (first | exact mH _ _ | apply mT)); exact rfl)
             | (apply Ev.load_rdq; (· exact rfl); (· repeat (first | exact mH _ _ | apply mT)); iterate 2 exact rfl)
             | (apply Ev.load_ardq; (· exact rfl); (· repeat (first | exact mH _ _ | apply mT)); exact rfl)
             | (apply Ev.fieldAddr; exact rfl)
             | (apply Ev.len; exact rfl)
             | (apply EqOf.eq; exact rfl)
             | (apply EqOf.ne; exact rfl)
             | (apply Ev.conv; exact rfl)
             | (apply Ev.buildN; exact rfl)
             | (apply Ev.shr; (iterate 2 exact rfl); first | decide | omega)
             | (apply Ev.shl; (iterate 2 exact rfl); first | decide | omega)
           · exact rfl)
        | (apply yn; iterate 4 exact rfl)
        | ((apply QL.split; (· exact rfl); (· exact rfl); (· exact rfl)); all_goals (intro hc; try simp only [decide_eq_true_eq, decide_eq_false_iff_not, Bool.not_eq_true', Bool.not_eq_false', Bool.not_eq_true, Bool.not_eq_false, Bool.not_true, Bool.not_false, Int.not_lt, Int.not_le, List.cons.injEq, and_true, beq_iff_eq, beq_eq_false_iff_ne] at hc; try (exfalso; first | contradiction | omega)))
        | apply QL.nil
        )
      all_goals (show DW _ _ _ _ _ _ _ _))
    all_goals (first | (apply DW.done_thn; (· decide +kernel)) | (apply DW.done; (· decide +kernel)))
    repeat' (
      first
      | (
        first
        | (apply kp; iterate 2 exact rfl)
        | apply ja | apply jb | apply jg | apply jj | (apply je; exact rfl) | (apply jf; exact rfl) | apply jd | apply jh | apply ji | (apply jc; kernel_rfl) | apply jk | apply jl | apply jm | apply jn | apply jo | (apply jp; exact rfl) | apply jq | apply jr | apply js | apply jt | apply ju | apply jv | apply jw | apply kN | apply kM
        | (apply kf; iterate 2 exact rfl)
        | (apply ko; (· exact rfl); (· repeat (first | exact mH _ _ | apply mT)); iterate 2 exact rfl)
        | (apply ka; (· exact rfl); (· repeat (first | exact mH _ _ | apply mT)); iterate 2 exact rfl)
        | (apply kr; (· exact rfl); (· repeat (first | exact mH _ _ | apply mT)); iterate 3 exact rfl)
        | (apply ks; (· exact rfl); (· repeat (first | exact mH _ _ | apply mT)); iterate 2 exact rfl)
        | (apply kn; iterate 2 exact rfl)
        | (apply ke; iterate 2 exact rfl)
        | (apply kx; iterate 2 exact rfl)
        | (apply kc; iterate 2 exact rfl)
        | (apply kb; iterate 2 exact rfl)
        | (apply kg; iterate 2 exact rfl)
        | (apply kG; iterate 3 exact rfl)
        | (apply kB; (iterate 2 exact rfl); intro _)
        | (apply kA; exact rfl; intro _)
        | (apply kL; (iterate 3 exact rfl); (· repeat (first | exact BS.nil _ | (apply BS.int; exact rfl) | (apply BS.ptr; exact rfl) | (apply BS.slice; exact rfl) | (apply BS.agg; iterate 2 exact rfl))); intro _)
        | (apply kT; (iterate 2 exact rfl); (· repeat (first | exact sH _ _ _ | apply sT)); iterate 2 exact rfl)
        | (apply kS; (iterate 2 exact rfl); (· repeat (first | exact sH _ _ _ | apply sT)); exact rfl)
        | (apply kh; (iterate 2 exact rfl); (first | decide | omega); exact rfl)
        | (apply kl; (iterate 2 exact rfl); (first | decide | omega); exact rfl)
        )
      | (apply LR.ev; (· apply Ev.add; (· exact rfl); (· exact rfl); (· first | omega | (dsimp only; omega)); (· first | omega | (dsimp only; omega))); (· exact rfl))
      | ((first | (apply kR; (· exact rfl); (· exact rfl)) | (apply kQ; (· exact rfl))); all_goals (intro hc; try simp only [decide_eq_true_eq, decide_eq_false_iff_not, Bool.not_eq_true', Bool.not_eq_false', Bool.not_eq_true, Bool.not_eq_false, Bool.not_true, Bool.not_false, Int.not_lt, Int.not_le, List.cons.injEq, and_true, beq_iff_eq, beq_eq_false_iff_ne] at hc; try (exfalso; first | contradiction | omega)))
      )
    apply At.again (i + 1, (first + 1) % 32, sl3, L3)
    · refine ⟨by show i + 1 ≤ 100; omega, rr3, ?_⟩
      show L3.map MsgA.m = textsL (i + 1) 32
      rw [mm3, if_pos rfl, mL, show textsL (i + 1) 32 = textsL (i + 1) 31 ++ [textN ((i + 1 + 31 : Nat) : Int)] from textsL_snoc (i + 1) 31]
      show _ ++ [textN (32 + (i : Int))] = _ ++ [textN ((i + 1 + 31 : Nat) : Int)]
      rw [show ((i + 1 + 31 : Nat) : Int) = 32 + (i : Int) by omega]
    · (repeat (first | exact Out.refl _ _ | exact Out.mix | (apply Out.upd; (· exact rfl)) | (apply Out.updL; (· exact rfl)) | (apply Out.mixs; (· exact rfl))))
    · exact ⟨rfl, trivial⟩
    · exact fun w' hw' => hw'.sub (by repeat (first | exact List.Sublist.refl _ | apply List.Sublist.cons_cons | apply List.Sublist.cons))
    · show 100 - (i + 1) < 100 - i
      omega
  · repeat' (
      first
      | (
        first
        | (apply kp; iterate 2 exact rfl)
        | apply ja | apply jb | apply jg | apply jj | (apply je; exact rfl) | (apply jf; exact rfl) | apply jd | apply jh | apply ji | (apply jc; kernel_rfl) | apply jk | apply jl | apply jm | apply jn | apply jo | (apply jp; exact rfl) | apply jq | apply jr | apply js | apply jt | apply ju | apply jv | apply jw | apply kN | apply kM
        | (apply kf; iterate 2 exact rfl)
        | (apply ko; (· exact rfl); (· repeat (first | exact mH _ _ | apply mT)); iterate 2 exact rfl)
        | (apply ka; (· exact rfl); (· repeat (first | exact mH _ _ | apply mT)); iterate 2 exact rfl)
        | (apply kr; (· exact rfl); (· repeat (first | exact mH _ _ | apply mT)); iterate 3 exact rfl)
        | (apply ks; (· exact rfl); (· repeat (first | exact mH _ _ | apply mT)); iterate 2 exact rfl)
        | (apply kn; iterate 2 exact rfl)
        | (apply ke; iterate 2 exact rfl)
        | (apply kx; iterate 2 exact rfl)
        | (apply kc; iterate 2 exact rfl)
        | (apply kb; iterate 2 exact rfl)
        | (apply kg; iterate 2 exact rfl)
        | (apply kG; iterate 3 exact rfl)
        | (apply kB; (iterate 2 exact rfl); intro _)
        | (apply kA; exact rfl; intro _)
        | (apply kL; (iterate 3 exact rfl); (· repeat (first | exact BS.nil _ | (apply BS.int; exact rfl) | (apply BS.ptr; exact rfl) | (apply BS.slice; exact rfl) | (apply BS.agg; iterate 2 exact rfl))); intro _)
        | (apply kT; (iterate 2 exact rfl); (· repeat (first | exact sH _ _ _ | apply sT)); iterate 2 exact rfl)
        | (apply kS; (iterate 2 exact rfl); (· repeat (first | exact sH _ _ _ | apply sT)); exact rfl)
        | (apply kh; (iterate 2 exact rfl); (first | decide | omega); exact rfl)
        | (apply kl; (iterate 2 exact rfl); (first | decide | omega); exact rfl)
        )
      | ((first | (apply kR; (· exact rfl); (· exact rfl)) | (apply kQ; (· exact rfl))); all_goals (intro hc; try simp only [decide_eq_true_eq, decide_eq_false_iff_not, Bool.not_eq_true', Bool.not_eq_false', Bool.not_eq_true, Bool.not_eq_false, Bool.not_true, Bool.not_false, Int.not_lt, Int.not_le, List.cons.injEq, and_true, beq_iff_eq, beq_eq_false_iff_ne] at hc; try (exfalso; first | contradiction | omega)))
      )
    apply CW.loop [0, 8, 9, 10, 11, 104, 105, 106, 107, 108, 109, 110, 111, 112, 113, 114, 115, 116, 117, 118, 119, 120, 121, 122, 123, 124, 125, 126, 127, 128, 129, 130, 131, 132, 133] (fun s : Nat × Option Nat => s.1 ≤ 2) (fun s => [(9, Value.int .i64 (s.1 : Int)), (8, .pointer (s.2.map fun b => ⟨b, 0, none⟩))])
      (fun s => St w NoF (match s.2 with | none => [] | some b => [.own b (.cells zeroQ.toArray 82 (0, 0))])) (fun s => 2 - s.1)
    · exact fun w' hw' => ⟨(0, none), by simp, ⟨rfl, rfl, trivial⟩, hw'.sub (List.nil_sublist _)⟩
    rintro ⟨j, ob⟩ g2 hj
    simp only at hj ⊢
    by_cases hlt2 : j < 2
    · cases ob with
      | none =>
        have hN : ∀ (L : List Asrt) (w1 : World), St w NoF L w1 → NoQ w1 none := fun _ _ _ => .inl rfl
        repeat' (
          first
          | (
            first
            | (apply kp; iterate 2 exact rfl)
            | apply ja | apply jb | apply jg | apply jj | (apply je; exact rfl) | (apply jf; exact rfl) | apply jd | apply jh | apply ji | (apply jc; kernel_rfl) | apply jk | apply jl | apply jm | apply jn | apply jo | (apply jp; exact rfl) | apply jq | apply jr | apply js | apply jt | apply ju | apply jv | apply jw | apply kN | apply kM
            | (apply kf; iterate 2 exact rfl)
            | (apply ko; (· exact rfl); (· repeat (first | exact mH _ _ | apply mT)); iterate 2 exact rfl)
            | (apply ka; (· exact rfl); (· repeat (first | exact mH _ _ | apply mT)); iterate 2 exact rfl)
            | (apply kr; (· exact rfl); (· repeat (first | exact mH _ _ | apply mT)); iterate 3 exact rfl)
            | (apply ks; (· exact rfl); (· repeat (first | exact mH _ _ | apply mT)); iterate 2 exact rfl)
            | (apply kn; iterate 2 exact rfl)
            | (apply ke; iterate 2 exact rfl)
            | (apply kx; iterate 2 exact rfl)
            | (apply kc; iterate 2 exact rfl)
            | (apply kb; iterate 2 exact rfl)
            | (apply kg; iterate 2 exact rfl)
            | (apply kG; iterate 3 exact rfl)
            | (apply kB; (iterate 2 exact rfl); intro _)
            | (apply kA; exact rfl; intro _)
            | (apply kL; (iterate 3 exact rfl); (· repeat (first | exact BS.nil _ | (apply BS.int; exact rfl) | (apply BS.ptr; exact rfl) | (apply BS.slice; exact rfl) | (apply BS.agg; iterate 2 exact rfl))); intro _)
            | (apply kT; (iterate 2 exact rfl); (· repeat (first | exact sH _ _ _ | apply sT)); iterate 2 exact rfl)
            | (apply kS; (iterate 2 exact rfl); (· repeat (first | exact sH _ _ _ | apply sT)); exact rfl)
            | (apply kh; (iterate 2 exact rfl); (first | decide | omega); exact rfl)
            | (apply kl; (iterate 2 exact rfl); (first | decide | omega); exact rfl)
            )
          | (apply kq; (· exact rfl); (· intro w1 h1; first | exact CallsTo.q (c44n none w1 (hN _ w1 h1)) h1 | exact CallsTo.q (c41n none _ w1 (hN _ w1 h1)) h1 | exact CallsTo.q (c46n none w1 (hN _ w1 h1)) h1 | exact CallsTo.q (c48n none w1 (hN _ w1 h1)) h1))
          | (apply LR.ev; (· apply Ev.add; (· exact rfl); (· exact rfl); (· first | omega | (dsimp only; omega)); (· first | omega | (dsimp only; omega))); (· exact rfl))
          | ((first | (apply kR; (· exact rfl); (· exact rfl)) | (apply kQ; (· exact rfl))); all_goals (intro hc; try simp only [decide_eq_true_eq, decide_eq_false_iff_not, Bool.not_eq_true', Bool.not_eq_false', Bool.not_eq_true, Bool.not_eq_false, Bool.not_true, Bool.not_false, Int.not_lt, Int.not_le, List.cons.injEq, and_true, beq_iff_eq, beq_eq_false_iff_ne] at hc; try (exfalso; first | contradiction | omega)))
          )
        apply At.again (j + 1, some _)
        · show j + 1 ≤ 2
          omega
        · (repeat (first | exact Out.refl _ _ | exact Out.mix | (apply Out.upd; (· exact rfl)) | (apply Out.updL; (· exact rfl)) | (apply Out.mixs; (· exact rfl))))
        · exact ⟨rfl, rfl, trivial⟩
        · exact fun w' hw' => hw'.sub (List.Sublist.cons_cons _ (List.nil_sublist _))
        · show 2 - (j + 1) < 2 - j
          omega
      | some bz =>
        have hN : ∀ (L : List Asrt) (w1 : World), (.own bz (.cells zeroQ.toArray 82 (0, 0))) ∈ L → St w NoF L w1 → NoQ w1 (some ⟨bz, 0, none⟩) := fun _ _ hm h => .inr ⟨bz, rfl, h.rd_of_blk hm⟩
        repeat' (
          first
          | (
            first
            | (apply kp; iterate 2 exact rfl)
            | apply ja | apply jb | apply jg | apply jj | (apply je; exact rfl) | (apply jf; exact rfl) | apply jd | apply jh | apply ji | (apply jc; kernel_rfl) | apply jk | apply jl | apply jm | apply jn | apply jo | (apply jp; exact rfl) | apply jq | apply jr | apply js | apply jt | apply ju | apply jv | apply jw | apply kN | apply kM
            | (apply kf; iterate 2 exact rfl)
            | (apply ko; (· exact rfl); (· repeat (first | exact mH _ _ | apply mT)); iterate 2 exact rfl)
            | (apply ka; (· exact rfl); (· repeat (first | exact mH _ _ | apply mT)); iterate 2 exact rfl)
            | (apply kr; (· exact rfl); (· repeat (first | exact mH _ _ | apply mT)); iterate 3 exact rfl)
            | (apply ks; (· exact rfl); (· repeat (first | exact mH _ _ | apply mT)); iterate 2 exact rfl)
            | (apply kn; iterate 2 exact rfl)
            | (apply ke; iterate 2 exact rfl)
            | (apply kx; iterate 2 exact rfl)
            | (apply kc; iterate 2 exact rfl)
            | (apply kb; iterate 2 exact rfl)
            | (apply kg; iterate 2 exact rfl)
            | (apply kG; iterate 3 exact rfl)
            | (apply kB; (iterate 2 exact rfl); intro _)
            | (apply kA; exact rfl; intro _)
            | (apply kL; (iterate 3 exact rfl); (· repeat (first | exact BS.nil _ | (apply BS.int; exact rfl) | (apply BS.ptr; exact rfl) | (apply BS.slice; exact rfl) | (apply BS.agg; iterate 2 exact rfl))); intro _)
            | (apply kT; (iterate 2 exact rfl); (· repeat (first | exact sH _ _ _ | apply sT)); iterate 2 exact rfl)
            | (apply kS; (iterate 2 exact rfl); (· repeat (first | exact sH _ _ _ | apply sT)); exact rfl)
            | (apply kh; (iterate 2 exact rfl); (first | decide | omega); exact rfl)
            | (apply kl; (iterate 2 exact rfl); (first | decide | omega); exact rfl)
            )
          | (apply kq; (· exact rfl); (· intro w1 h1; first | exact CallsTo.q (c44n _ w1 (hN _ w1 (by (repeat (first | exact mH _ _ | apply mT))) h1)) h1 | exact CallsTo.q (c41n _ _ w1 (hN _ w1 (by (repeat (first | exact mH _ _ | apply mT))) h1)) h1 | exact CallsTo.q (c46n _ w1 (hN _ w1 (by (repeat (first | exact mH _ _ | apply mT))) h1)) h1 | exact CallsTo.q (c48n _ w1 (hN _ w1 (by (repeat (first | exact mH _ _ | apply mT))) h1)) h1))
          | (apply LR.ev; (· apply Ev.add; (· exact rfl); (· exact rfl); (· first | omega | (dsimp only; omega)); (· first | omega | (dsimp only; omega))); (· exact rfl))
          | ((first | (apply kR; (· exact rfl); (· exact rfl)) | (apply kQ; (· exact rfl))); all_goals (intro hc; try simp only [decide_eq_true_eq, decide_eq_false_iff_not, Bool.not_eq_true', Bool.not_eq_false', Bool.not_eq_true, Bool.not_eq_false, Bool.not_true, Bool.not_false, Int.not_lt, Int.not_le, List.cons.injEq, and_true, beq_iff_eq, beq_eq_false_iff_ne] at hc; try (exfalso; first | contradiction | omega)))
          )
        apply At.again (j + 1, some _)
        · show j + 1 ≤ 2
          omega
        · (repeat (first | exact Out.refl _ _ | exact Out.mix | (apply Out.upd; (· exact rfl)) | (apply Out.updL; (· exact rfl)) | (apply Out.mixs; (· exact rfl))))
        · exact ⟨rfl, rfl, trivial⟩
        · exact fun w' hw' => hw'.sub (List.Sublist.cons_cons _ (List.nil_sublist _))
        · show 2 - (j + 1) < 2 - j
          omega
    · repeat' (
        first
        | (
          first
          | (apply kp; iterate 2 exact rfl)
          | apply ja | apply jb | apply jg | apply jj | (apply je; exact rfl) | (apply jf; exact rfl) | apply jd | apply jh | apply ji | (apply jc; kernel_rfl) | apply jk | apply jl | apply jm | apply jn | apply jo | (apply jp; exact rfl) | apply jq | apply jr | apply js | apply jt | apply ju | apply jv | apply jw | apply kN | apply kM
          | (apply kf; iterate 2 exact rfl)
          | (apply ko; (· exact rfl); (· repeat (first | exact mH _ _ | apply mT)); iterate 2 exact rfl)
          | (apply ka; (· exact rfl); (· repeat (first | exact mH _ _ | apply mT)); iterate 2 exact rfl)
          | (apply kr; (· exact rfl); (· repeat (first | exact mH _ _ | apply mT)); iterate 3 exact rfl)
          | (apply ks; (· exact rfl); (· repeat (first | exact mH _ _ | apply mT)); iterate 2 exact rfl)
          | (apply kn; iterate 2 exact rfl)
          | (apply ke; iterate 2 exact rfl)
          | (apply kx; iterate 2 exact rfl)
          | (apply kc; iterate 2 exact rfl)
          | (apply kb; iterate 2 exact rfl)
          | (apply kg; iterate 2 exact rfl)
          | (apply kG; iterate 3 exact rfl)
          | (apply kB; (iterate 2 exact rfl); intro _)
          | (apply kA; exact rfl; intro _)
          | (apply kL; (iterate 3 exact rfl); (· repeat (first | exact BS.nil _ | (apply BS.int; exact rfl) | (apply BS.ptr; exact rfl) | (apply BS.slice; exact rfl) | (apply BS.agg; iterate 2 exact rfl))); intro _)
          | (apply kT; (iterate 2 exact rfl); (· repeat (first | exact sH _ _ _ | apply sT)); iterate 2 exact rfl)
          | (apply kS; (iterate 2 exact rfl); (· repeat (first | exact sH _ _ _ | apply sT)); exact rfl)
          | (apply kh; (iterate 2 exact rfl); (first | decide | omega); exact rfl)
          | (apply kl; (iterate 2 exact rfl); (first | decide | omega); exact rfl)
          )
        | (apply kq; (· exact rfl); (· intro w1 h1; exact CallsTo.q (c50 w1) h1))
        | ((first | (apply kR; (· exact rfl); (· exact rfl)) | (apply kQ; (· exact rfl))); all_goals (intro hc; try simp only [decide_eq_true_eq, decide_eq_false_iff_not, Bool.not_eq_true', Bool.not_eq_false', Bool.not_eq_true, Bool.not_eq_false, Bool.not_true, Bool.not_false, Int.not_lt, Int.not_le, List.cons.injEq, and_true, beq_iff_eq, beq_eq_false_iff_ne] at hc; try (exfalso; first | contradiction | omega)))
        )
      (apply ret1; (· exact rfl); intro w' hS)
      exact ⟨rfl, hS.toKeep⟩
end Go.Proofs.Ytomlgnncncjmaaa
