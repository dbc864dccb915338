/-
  The chapter's messages by numbers; queues at work.
-/
import Derived.Test.YtomlgnncncjmaaaQ2
-- all by hand
namespace Go.Proofs.Ytomlgnncncjmaaa
open Go.Hb
attribute [local irreducible] LR CW At Ev thn blk finK noG again CallsTo DW QL dnext TW DP
set_option linter.unusedSimpArgs false
set_option linter.unusedVariables false
set_option maxRecDepth 100000

def textN (n : Int) : Msg := ⟨1, 1 + andI .i64 n 7, 1, andI .i64 n 65535, 0, 1, 1, false, 0, 0, 0, 0, [IntKind.wrap .u8 n]⟩
theorem c51 (n : Int) (w : World) (h7 : 0 ≤ andI .i64 n 7 ∧ andI .i64 n 7 ≤ 7) : CallsTo Try.prog 51 [.int .i64 n] w fun v w' => ∃ a c, v = (textN n).val a c ∧ NewSl w w' (.slice a (textN n).body.length c) 5 1 (textN n).body.length (bv (textN n).body) := by
  refine go_in (n := 12) (St.refl _ NoF) Try.func51 rfl rfl ?_
  repeat' (
    first
    | (
      first
      | (apply kp; iterate 2 exact rfl)
      | apply ja | apply jb | apply jg | apply jj | (apply je; exact rfl) | (apply jf; exact rfl) | apply jd | apply jh | apply ji | (apply jc; kernel_rfl) | apply jk | apply jl | apply jm | apply jn | apply jo | (apply jp; exact rfl) | apply jq | apply jr | apply js | apply jt | apply ju | apply jv | apply jw | apply kN | apply kM
      | (apply kf; iterate 2 exact rfl)
      | (apply ko; (· exact rfl); (· repeat (first | exact mH _ _ | apply mT)); iterate 2 exact rfl)
      | (apply ka; (· exact rfl); (· repeat (first | exact mH _ _ | apply mT)); iterate 2 exact rfl)
      | (apply kr; (· exact rfl); (· repeat (first | exact mH _ _ | apply mT)); iterate 3 exact rfl)
      | (apply ks; (· exact rfl); (· repeat (first | exact mH _ _ | apply mT)); iterate 2 exact rfl)
      | (apply kn; iterate 2 exact rfl)
      | (apply ke; iterate 2 exact rfl)
      | (apply kx; iterate 2 exact rfl)
      | (apply kc; iterate 2 exact rfl)
      | (apply kb; iterate 2 exact rfl)
      | (apply kg; iterate 2 exact rfl)
      | (apply kG; iterate 3 exact rfl)
      | (apply kB; (iterate 2 exact rfl); intro _)
      | (apply kA; exact rfl; intro _)
      | (apply kL; (iterate 3 exact rfl); (· repeat (first | exact BS.nil _ | (apply BS.int; exact rfl) | (apply BS.ptr; exact rfl) | (apply BS.slice; exact rfl) | (apply BS.agg; iterate 2 exact rfl))); intro _)
      | (apply kT; (iterate 2 exact rfl); (· repeat (first | exact sH _ _ _ | apply sT)); iterate 2 exact rfl)
      | (apply kS; (iterate 2 exact rfl); (· repeat (first | exact sH _ _ _ | apply sT)); exact rfl)
      | (apply kh; (iterate 2 exact rfl); (first | decide | omega); exact rfl)
      | (apply kl; (iterate 2 exact rfl); (first | decide | omega); exact rfl)
      )
    | (apply LR.ev; (· apply Ev.add; (· exact rfl); (· exact rfl); (· first | omega | (dsimp only; omega)); (· first | omega | (dsimp only; omega))); (· exact rfl))
    | ((first | (apply kR; (· exact rfl); (· exact rfl)) | (apply kQ; (· exact rfl))); all_goals (intro hc; try simp only [decide_eq_true_eq, decide_eq_false_iff_not, Bool.not_eq_true', Bool.not_eq_false', Bool.not_eq_true, Bool.not_eq_false, Bool.not_true, Bool.not_false, Int.not_lt, Int.not_le, List.cons.injEq, and_true, beq_iff_eq, beq_eq_false_iff_ne] at hc; try (exfalso; first | contradiction | omega)))
    )
  (apply ret1c; (· exact rfl); (· exact inferInstance); (· exact rfl); (· (repeat (first | exact List.Mem.head _ | apply List.Mem.tail))); (· exact rfl); intro w' hS)
  exact ⟨_, 1, rfl, (hS.own_osl (k := 1) (sz := 1) (E := 5) (cs := [.int .u8 (IntKind.wrap .u8 n)]) (Sel.head _ _ _) rfl (by unfold maxLen; omega)).toNew (List.Mem.head _)⟩
theorem and7 : ∀ n : Nat, n < 200 → 0 ≤ andI .i64 (n : Int) 7 ∧ andI .i64 (n : Int) 7 ≤ 7 := by decide +kernel
theorem check_text : ∀ n : Nat, n < 200 → check (textN (n : Int)) = 0 := by decide +kernel
def textsL (from_ n : Nat) : List Msg := (List.range n).map fun i => textN ((from_ + i : Nat) : Int)
theorem textsL_snoc (from_ n : Nat) : textsL from_ (n + 1) = textsL from_ n ++ [textN ((from_ + n : Nat) : Int)] := by
  unfold textsL; rw [List.range_succ, List.map_append]; rfl
abbrev mS (a : Option Addr) (c : Nat) (l : List MsgA) : Asrt := osl (.slice a l.length c) 28 13 l.length (l.flatMap MsgA.row)
theorem row_one (l : List MsgA) : (l.flatMap MsgA.row).all Value.oneCell' = true := by
  rw [List.all_eq_true]
  intro v hv
  obtain ⟨x, hx, hv⟩ := List.mem_flatMap.1 hv
  have : x.row.all Value.oneCell' = true := by simp [MsgA.row, Msg.cells, Value.oneCell']
  exact List.all_eq_true.1 this v hv
theorem mS_snoc (a : Option Addr) (c : Nat) (l : List MsgA) (x : MsgA) : osl (.slice a (l.length + 1) c) 28 13 (l.length + 1) (l.flatMap MsgA.row ++ x.row) = mS a c (l ++ [x]) := by simp [mS]
set_option maxHeartbeats 1000000 in
theorem c52 (from_ n : Nat) (w : World) (h : from_ + n ≤ 200) : CallsTo Try.prog 52 [.int .i64 (from_ : Int), .int .i64 (n : Int)] w fun v w' => ∃ a c l, v = .slice a l.length c ∧ l.map MsgA.m = textsL from_ n ∧ St w NoF [mS a c l, bunB l] w' := by
  refine go_in (n := 20) (St.refl _ NoF) Try.func52 rfl rfl ?_
  repeat' (
    first
    | (
      first
      | (apply kp; iterate 2 exact rfl)
      | apply ja | apply jb | apply jg | apply jj | (apply je; exact rfl) | (apply jf; exact rfl) | apply jd | apply jh | apply ji | (apply jc; kernel_rfl) | apply jk | apply jl | apply jm | apply jn | apply jo | (apply jp; exact rfl) | apply jq | apply jr | apply js | apply jt | apply ju | apply jv | apply jw | apply kN | apply kM
      | (apply kf; iterate 2 exact rfl)
      | (apply ko; (· exact rfl); (· repeat (first | exact mH _ _ | apply mT)); iterate 2 exact rfl)
      | (apply ka; (· exact rfl); (· repeat (first | exact mH _ _ | apply mT)); iterate 2 exact rfl)
      | (apply kr; (· exact rfl); (· repeat (first | exact mH _ _ | apply mT)); iterate 3 exact rfl)
      | (apply ks; (· exact rfl); (· repeat (first | exact mH _ _ | apply mT)); iterate 2 exact rfl)
      | (apply kn; iterate 2 exact rfl)
      | (apply ke; iterate 2 exact rfl)
      | (apply kx; iterate 2 exact rfl)
      | (apply kc; iterate 2 exact rfl)
      | (apply kb; iterate 2 exact rfl)
      | (apply kg; iterate 2 exact rfl)
      | (apply kG; iterate 3 exact rfl)
      | (apply kB; (iterate 2 exact rfl); intro _)
      | (apply kA; exact rfl; intro _)
      | (apply kL; (iterate 3 exact rfl); (· repeat (first | exact BS.nil _ | (apply BS.int; exact rfl) | (apply BS.ptr; exact rfl) | (apply BS.slice; exact rfl) | (apply BS.agg; iterate 2 exact rfl))); intro _)
      | (apply kT; (iterate 2 exact rfl); (· repeat (first | exact sH _ _ _ | apply sT)); iterate 2 exact rfl)
      | (apply kS; (iterate 2 exact rfl); (· repeat (first | exact sH _ _ _ | apply sT)); exact rfl)
      | (apply kh; (iterate 2 exact rfl); (first | decide | omega); exact rfl)
      | (apply kl; (iterate 2 exact rfl); (first | decide | omega); exact rfl)
      )
    | ((first | (apply kR; (· exact rfl); (· exact rfl)) | (apply kQ; (· exact rfl))); all_goals (intro hc; try simp only [decide_eq_true_eq, decide_eq_false_iff_not, Bool.not_eq_true', Bool.not_eq_false', Bool.not_eq_true, Bool.not_eq_false, Bool.not_true, Bool.not_false, Int.not_lt, Int.not_le, List.cons.injEq, and_true, beq_iff_eq, beq_eq_false_iff_ne] at hc; try (exfalso; first | contradiction | omega)))
    )
  apply CW.loop [5, 6, 7, 8, 9, 10, 11, 12, 13, 14, 15, 16, 17, 18] (fun s : Nat × Option Addr × Nat × List MsgA => s.1 ≤ n ∧ s.2.2.2.map MsgA.m = textsL from_ s.1) (fun s => [(6, Value.int .i64 (s.1 : Int)), (5, .slice s.2.1 s.2.2.2.length s.2.2.1)])
    (fun s => St w NoF [mS s.2.1 s.2.2.1 s.2.2.2, bunB s.2.2.2]) (fun s => n - s.1)
  · exact fun w' hw' => ⟨(0, none, 0, []), ⟨by simp, rfl⟩, ⟨rfl, rfl, trivial⟩, (hw'.bun_nil MsgA.dep).nilsl 28 13⟩
  rintro ⟨i, a, c, l⟩ g ⟨hi, hl⟩
  simp only at hi hl ⊢
  have hlen : l.length = i := by have := congrArg List.length hl; simpa [textsL] using this
  by_cases hlt : i < n
  · have e1 : ((from_ + i : Nat) : Int) = (from_ : Int) + (i : Int) := rfl
    have h7 := and7 (from_ + i) (by omega)
    rw [e1] at h7
    repeat' (
      first
      | (
        first
        | (apply kp; iterate 2 exact rfl)
        | apply ja | apply jb | apply jg | apply jj | (apply je; exact rfl) | (apply jf; exact rfl) | apply jd | apply jh | apply ji | (apply jc; kernel_rfl) | apply jk | apply jl | apply jm | apply jn | apply jo | (apply jp; exact rfl) | apply jq | apply jr | apply js | apply jt | apply ju | apply jv | apply jw | apply kN | apply kM
        | (apply kf; iterate 2 exact rfl)
        | (apply ko; (· exact rfl); (· repeat (first | exact mH _ _ | apply mT)); iterate 2 exact rfl)
        | (apply ka; (· exact rfl); (· repeat (first | exact mH _ _ | apply mT)); iterate 2 exact rfl)
        | (apply kr; (· exact rfl); (· repeat (first | exact mH _ _ | apply mT)); iterate 3 exact rfl)
        | (apply ks; (· exact rfl); (· repeat (first | exact mH _ _ | apply mT)); iterate 2 exact rfl)
        | (apply kn; iterate 2 exact rfl)
        | (apply ke; iterate 2 exact rfl)
        | (apply kx; iterate 2 exact rfl)
        | (apply kc; iterate 2 exact rfl)
        | (apply kb; iterate 2 exact rfl)
        | (apply kg; iterate 2 exact rfl)
        | (apply kG; iterate 3 exact rfl)
        | (apply kB; (iterate 2 exact rfl); intro _)
        | (apply kA; exact rfl; intro _)
        | (apply kL; (iterate 3 exact rfl); (· repeat (first | exact BS.nil _ | (apply BS.int; exact rfl) | (apply BS.ptr; exact rfl) | (apply BS.slice; exact rfl) | (apply BS.agg; iterate 2 exact rfl))); intro _)
        | (apply kT; (iterate 2 exact rfl); (· repeat (first | exact sH _ _ _ | apply sT)); iterate 2 exact rfl)
        | (apply kS; (iterate 2 exact rfl); (· repeat (first | exact sH _ _ _ | apply sT)); exact rfl)
        | (apply kh; (iterate 2 exact rfl); (first | decide | omega); exact rfl)
        | (apply kl; (iterate 2 exact rfl); (first | decide | omega); exact rfl)
        )
      | (apply LR.ev; (· apply Ev.add; (· exact rfl); (· exact rfl); (· first | omega | (dsimp only; omega)); (· first | omega | (dsimp only; omega))); (· exact rfl))
      | ((first | (apply kR; (· exact rfl); (· exact rfl)) | (apply kQ; (· exact rfl))); all_goals (intro hc; try simp only [decide_eq_true_eq, decide_eq_false_iff_not, Bool.not_eq_true', Bool.not_eq_false', Bool.not_eq_true, Bool.not_eq_false, Bool.not_true, Bool.not_false, Int.not_lt, Int.not_le, List.cons.injEq, and_true, beq_iff_eq, beq_eq_false_iff_ne] at hc; try (exfalso; first | contradiction | omega)))
      )
    apply LR.call
    · exact rfl
    intro w1 h1
    refine (c51 ((from_ : Int) + (i : Int)) w1 h7).mono ?_
    rintro v w2 ⟨a1, c1, rfl, hn1⟩
    refine LR.back (h1.newSl hn1) ?_
    clear hn1 h1
    repeat' (
      first
      | (
        first
        | (apply kp; iterate 2 exact rfl)
        | apply ja | apply jb | apply jg | apply jj | (apply je; exact rfl) | (apply jf; exact rfl) | apply jd | apply jh | apply ji | (apply jc; kernel_rfl) | apply jk | apply jl | apply jm | apply jn | apply jo | (apply jp; exact rfl) | apply jq | apply jr | apply js | apply jt | apply ju | apply jv | apply jw | apply kN | apply kM
        | (apply kf; iterate 2 exact rfl)
        | (apply ko; (· exact rfl); (· repeat (first | exact mH _ _ | apply mT)); iterate 2 exact rfl)
        | (apply ka; (· exact rfl); (· repeat (first | exact mH _ _ | apply mT)); iterate 2 exact rfl)
        | (apply kr; (· exact rfl); (· repeat (first | exact mH _ _ | apply mT)); iterate 3 exact rfl)
        | (apply ks; (· exact rfl); (· repeat (first | exact mH _ _ | apply mT)); iterate 2 exact rfl)
        | (apply kn; iterate 2 exact rfl)
        | (apply ke; iterate 2 exact rfl)
        | (apply kx; iterate 2 exact rfl)
        | (apply kc; iterate 2 exact rfl)
        | (apply kb; iterate 2 exact rfl)
        | (apply kg; iterate 2 exact rfl)
        | (apply kG; iterate 3 exact rfl)
        | (apply kB; (iterate 2 exact rfl); intro _)
        | (apply kA; exact rfl; intro _)
        | (apply kL; (iterate 3 exact rfl); (· repeat (first | exact BS.nil _ | (apply BS.int; exact rfl) | (apply BS.ptr; exact rfl) | (apply BS.slice; exact rfl) | (apply BS.agg; iterate 2 exact rfl))); intro _)
        | (apply kT; (iterate 2 exact rfl); (· repeat (first | exact sH _ _ _ | apply sT)); iterate 2 exact rfl)
        | (apply kS; (iterate 2 exact rfl); (· repeat (first | exact sH _ _ _ | apply sT)); exact rfl)
        | (apply kh; (iterate 2 exact rfl); (first | decide | omega); exact rfl)
        | (apply kl; (iterate 2 exact rfl); (first | decide | omega); exact rfl)
        )
      | ((first | (apply kR; (· exact rfl); (· exact rfl)) | (apply kQ; (· exact rfl))); all_goals (intro hc; try simp only [decide_eq_true_eq, decide_eq_false_iff_not, Bool.not_eq_true', Bool.not_eq_false', Bool.not_eq_true, Bool.not_eq_false, Bool.not_true, Bool.not_false, Int.not_lt, Int.not_le, List.cons.injEq, and_true, beq_iff_eq, beq_eq_false_iff_ne] at hc; try (exfalso; first | contradiction | omega)))
      )
    refine LR.append (xs := l.flatMap MsgA.row) (news := MsgA.row ⟨textN ((from_ : Int) + (i : Int)), a1, c1⟩) (m := 1) rfl rfl (fun a' c' => sT _ (sT _ (sH _ _ _))) (fun w' hw' => hw'.rd_of_blk (mH _ _)) (fun hx => by cases hx) rfl (by simp [MsgA.row, Msg.cells, Value.oneCell']) (by omega) (by unfold maxLen; omega) rfl ?_
    intro ay cy
    repeat' (
      first
      | (
        first
        | (apply kp; iterate 2 exact rfl)
        | apply ja | apply jb | apply jg | apply jj | (apply je; exact rfl) | (apply jf; exact rfl) | apply jd | apply jh | apply ji | (apply jc; kernel_rfl) | apply jk | apply jl | apply jm | apply jn | apply jo | (apply jp; exact rfl) | apply jq | apply jr | apply js | apply jt | apply ju | apply jv | apply jw | apply kN | apply kM
        | (apply kf; iterate 2 exact rfl)
        | (apply ko; (· exact rfl); (· repeat (first | exact mH _ _ | apply mT)); iterate 2 exact rfl)
        | (apply ka; (· exact rfl); (· repeat (first | exact mH _ _ | apply mT)); iterate 2 exact rfl)
        | (apply kr; (· exact rfl); (· repeat (first | exact mH _ _ | apply mT)); iterate 3 exact rfl)
        | (apply ks; (· exact rfl); (· repeat (first | exact mH _ _ | apply mT)); iterate 2 exact rfl)
        | (apply kn; iterate 2 exact rfl)
        | (apply ke; iterate 2 exact rfl)
        | (apply kx; iterate 2 exact rfl)
        | (apply kc; iterate 2 exact rfl)
        | (apply kb; iterate 2 exact rfl)
        | (apply kg; iterate 2 exact rfl)
        | (apply kG; iterate 3 exact rfl)
        | (apply kB; (iterate 2 exact rfl); intro _)
        | (apply kA; exact rfl; intro _)
        | (apply kL; (iterate 3 exact rfl); (· repeat (first | exact BS.nil _ | (apply BS.int; exact rfl) | (apply BS.ptr; exact rfl) | (apply BS.slice; exact rfl) | (apply BS.agg; iterate 2 exact rfl))); intro _)
        | (apply kT; (iterate 2 exact rfl); (· repeat (first | exact sH _ _ _ | apply sT)); iterate 2 exact rfl)
        | (apply kS; (iterate 2 exact rfl); (· repeat (first | exact sH _ _ _ | apply sT)); exact rfl)
        | (apply kh; (iterate 2 exact rfl); (first | decide | omega); exact rfl)
        | (apply kl; (iterate 2 exact rfl); (first | decide | omega); exact rfl)
        )
      | (apply LR.ev; (· apply Ev.add; (· exact rfl); (· exact rfl); (· first | omega | (dsimp only; omega)); (· first | omega | (dsimp only; omega))); (· exact rfl))
      | ((first | (apply kR; (· exact rfl); (· exact rfl)) | (apply kQ; (· exact rfl))); all_goals (intro hc; try simp only [decide_eq_true_eq, decide_eq_false_iff_not, Bool.not_eq_true', Bool.not_eq_false', Bool.not_eq_true, Bool.not_eq_false, Bool.not_true, Bool.not_false, Int.not_lt, Int.not_le, List.cons.injEq, and_true, beq_iff_eq, beq_eq_false_iff_ne] at hc; try (exfalso; first | contradiction | omega)))
      )
    apply At.again (i + 1, ay, cy, l ++ [⟨textN ((from_ : Int) + (i : Int)), a1, c1⟩])
    · refine ⟨by show i + 1 ≤ n; omega, ?_⟩
      show (l ++ [MsgA.mk (textN ((from_ : Int) + (i : Int))) a1 c1]).map MsgA.m = textsL from_ (i + 1)
      rw [textsL_snoc, List.map_append, hl]
      rfl
    · (repeat (first | exact Out.refl _ _ | exact Out.mix | (apply Out.upd; (· exact rfl)) | (apply Out.updL; (· exact rfl)) | (apply Out.mixs; (· exact rfl))))
    · exact ⟨rfl, by show Value.slice ay (l.length + 1) cy = .slice ay (l ++ [MsgA.mk (textN ((from_ : Int) + (i : Int))) a1 c1]).length cy; simp, trivial⟩
    · intro w' hw'
      have h2 := St.bun_snoc (f := MsgA.body) (x := ⟨textN ((from_ : Int) + (i : Int)), a1, c1⟩) (l := l) MsgA.dep MsgA.ex (front (front hw' 3 rfl rfl) 2 rfl rfl)
      rw [mS_snoc] at h2
      exact (front h2 2 rfl rfl).sub (by repeat (first | exact List.Sublist.refl _ | apply List.Sublist.cons_cons | apply List.Sublist.cons))
    · show n - (i + 1) < n - i
      omega
  · repeat' (
      first
      | (
        first
        | (apply kp; iterate 2 exact rfl)
        | apply ja | apply jb | apply jg | apply jj | (apply je; exact rfl) | (apply jf; exact rfl) | apply jd | apply jh | apply ji | (apply jc; kernel_rfl) | apply jk | apply jl | apply jm | apply jn | apply jo | (apply jp; exact rfl) | apply jq | apply jr | apply js | apply jt | apply ju | apply jv | apply jw | apply kN | apply kM
        | (apply kf; iterate 2 exact rfl)
        | (apply ko; (· exact rfl); (· repeat (first | exact mH _ _ | apply mT)); iterate 2 exact rfl)
        | (apply ka; (· exact rfl); (· repeat (first | exact mH _ _ | apply mT)); iterate 2 exact rfl)
        | (apply kr; (· exact rfl); (· repeat (first | exact mH _ _ | apply mT)); iterate 3 exact rfl)
        | (apply ks; (· exact rfl); (· repeat (first | exact mH _ _ | apply mT)); iterate 2 exact rfl)
        | (apply kn; iterate 2 exact rfl)
        | (apply ke; iterate 2 exact rfl)
        | (apply kx; iterate 2 exact rfl)
        | (apply kc; iterate 2 exact rfl)
        | (apply kb; iterate 2 exact rfl)
        | (apply kg; iterate 2 exact rfl)
        | (apply kG; iterate 3 exact rfl)
        | (apply kB; (iterate 2 exact rfl); intro _)
        | (apply kA; exact rfl; intro _)
        | (apply kL; (iterate 3 exact rfl); (· repeat (first | exact BS.nil _ | (apply BS.int; exact rfl) | (apply BS.ptr; exact rfl) | (apply BS.slice; exact rfl) | (apply BS.agg; iterate 2 exact rfl))); intro _)
        | (apply kT; (iterate 2 exact rfl); (· repeat (first | exact sH _ _ _ | apply sT)); iterate 2 exact rfl)
        | (apply kS; (iterate 2 exact rfl); (· repeat (first | exact sH _ _ _ | apply sT)); exact rfl)
        | (apply kh; (iterate 2 exact rfl); (first | decide | omega); exact rfl)
        | (apply kl; (iterate 2 exact rfl); (first | decide | omega); exact rfl)
        )
      | ((first | (apply kR; (· exact rfl); (· exact rfl)) | (apply kQ; (· exact rfl))); all_goals (intro hc; try simp only [decide_eq_true_eq, decide_eq_false_iff_not, Bool.not_eq_true', Bool.not_eq_false', Bool.not_eq_true, Bool.not_eq_false, Bool.not_true, Bool.not_false, Int.not_lt, Int.not_le, List.cons.injEq, and_true, beq_iff_eq, beq_eq_false_iff_ne] at hc; try (exfalso; first | contradiction | omega)))
      )
    (apply ret1; (· exact rfl); intro w' hS)
    have : i = n := by omega
    subst this
    exact ⟨a, c, l, rfl, hl, hS⟩
theorem MR.old {w w1 : World} {L : List Asrt} {x : MsgA} (h : MR w x) (h1 : St w NoF L w1) : MR w1 x := ⟨h1.oldRd h.hr, h.hz, h.hm, h.hb⟩
/-- What a list of messages that one owns lends to a call. -/
theorem bun_MR {w : World} {l : List MsgA} (h : (bunB l).holds w) (hb : ∀ x ∈ l, Byt x.m.body ∧ x.m.body.length ≤ 140737488355328) : ∀ x ∈ l, MR w x := by
  intro x hx
  have hh : x.body.holds w := h.1 x hx
  exact ⟨ownsRow_rd hh, fun e => (ownsRow_some hh e).2, (hb x hx).2, (hb x hx).1⟩
theorem bun_foot {l : List MsgA} {x : MsgA} (hx : x ∈ l) {k : Nat} (h : rdFoot x.a (bv x.m.body) k) : (bunB l).foot k := ⟨x, hx, St.osl_foot h⟩
theorem qputE_ok {n : Nat} {l : List MsgA} (h : ∀ x ∈ l, check x.m = 0) (hl : n + l.length ≤ 32) : qputE n l = 0 := by
  unfold qputE
  rw [if_neg (by rw [List.any_eq_true]; rintro ⟨x, hx, h2⟩; have := h x hx; simp [this] at h2), if_neg (by omega)]
theorem qputE_full {n : Nat} {l : List MsgA} (h : ∀ x ∈ l, check x.m = 0) (hl : 32 < n + l.length) (hn : n ≤ 32) : qputE n l = 7 := by
  unfold qputE
  rw [if_neg (by rw [List.any_eq_true]; rintro ⟨x, hx, h2⟩; have := h x hx; simp [this] at h2), if_pos (by omega)]
theorem byt_text : ∀ n : Nat, n < 200 → 0 ≤ IntKind.wrap .u8 (n : Int) ∧ IntKind.wrap .u8 (n : Int) < 256 := by decide +kernel
theorem textsL_ok {from_ n : Nat} {l : List MsgA} (h : from_ + n ≤ 200) (hl : l.map MsgA.m = textsL from_ n) : ∀ x ∈ l, check x.m = 0 ∧ Byt x.m.body ∧ x.m.body.length = 1 := by
  intro x hx
  have : x.m ∈ textsL from_ n := by rw [← hl]; exact List.mem_map.2 ⟨x, hx, rfl⟩
  obtain ⟨i, hi, he⟩ := List.mem_map.1 this
  rw [List.mem_range] at hi
  rw [← he]
  refine ⟨check_text _ (by omega), ?_, rfl⟩
  intro b hb
  simp only [textN, List.mem_singleton] at hb
  subst hb
  exact byt_text _ (by omega)
theorem qO_rd {b first : Nat} {slots L : List MsgA} {w : World} (h : (qO b first slots L).holds w) : Rd w (some ⟨b, 0, none⟩) (qcells first L.length slots) := fun j v hj =>
  ⟨_, rfl, by rw [addr_add, cell_own (show w.heap[b]? = some (.cells (qcells first L.length slots).toArray 82 (0, 0)) from h.1)]; simpa using hj⟩
theorem put_lent {w0 w1 : World} {R : List Asrt} {b first : Nat} {slots L : List MsgA} {al : Option Addr} {cl : Nat} {l : List MsgA} (h1 : St w0 NoF (mS al cl l :: bunB l :: R) w1) (hqm : qO b first slots L ∈ R) (hq : QRep first slots L)
    (hb : ∀ x ∈ l, Byt x.m.body ∧ x.m.body.length ≤ 140737488355328) (hm : l.length ≤ 140737488355328) :
    CallsTo Try.prog 41 [.pointer (some ⟨b, 0, none⟩), .slice al l.length cl] w1 fun v w' => ∃ slots' L', v = .int .i64 (qputE L.length l) ∧ QRep first slots' L' ∧ L'.map MsgA.m = L.map MsgA.m ++ (if qputE L.length l = 0 then l.map MsgA.m else []) ∧ Step (qO b first slots L) (qO b first slots' L') w1 w' :=
  c41 b first slots L al cl l w1 (h1.holds _ (mT _ (mT _ hqm))) hq (ownsRow_rd h1.g0) (fun k hk => h1.apart (mT _ hqm) rfl k (St.osl_foot hk)) (bun_MR h1.g1 hb) (fun x hx k hk => h1.tail1.apart hqm rfl k (bun_foot hx hk)) hm
theorem take_own (b first : Nat) (slots L : List MsgA) (x : MsgA) (w : World) (h : (qO b first slots (x :: L)).holds w) (hq : QRep first slots (x :: L)) :
    CallsTo Try.prog 44 [.pointer (some ⟨b, 0, none⟩)] w fun v w' => v = .tuple [x.m.val x.a x.c, .int .i64 0].toArray ∧ ∃ slots', QRep ((first + 1) % 32) slots' L ∧ St w (qO b first slots (x :: L)).foot [qO b ((first + 1) % 32) slots' L, x.body] w' := by
  have hS0 := (St.one h (both_live h) (qO_dep b first slots (x :: L))).part (Asrt.dep_own _ _) (bun_dep MsgA.dep _)
  have hL := hq.hL
  refine (c44 b first (x :: L).length slots w hS0.g0 hq.h32 hq.hf (by simp) hL x hq.take.2).mono ?_
  rintro v w' ⟨rfl, st⟩
  refine ⟨rfl, _, hq.take.1, ?_⟩
  have h1 := hS0.one' st rfl (Asrt.dep_own _ _) (sH _ _ _)
  have h2 := (front h1 1 rfl rfl).bun_head MsgA.dep
  have h3 := (front (front h2 1 rfl rfl) 2 rfl rfl).cast (L' := [qB b ((first + 1) % 32) L.length (slots.set first zeroA), bunB L, x.body]) rfl
  exact h3.join rfl rfl
theorem zeroA_MR (w : World) : MR w zeroA := ⟨Rd.nil _ _, fun _ => rfl, by simp [zeroA, zeroMsg], by simp [zeroA, zeroMsg, Byt]⟩
theorem qputE_zero (n : Nat) : qputE n [zeroA] = 2 := by
  unfold qputE
  rw [if_pos]
  have : check zeroA.m = 2 := by kernel_rfl
  simp [this]
theorem excl2 {a : Option Addr} {c : Nat} {l : List MsgA} : ∀ x ∈ [mS a c l, bunB l], x.excl = true := by
  intro x hx; simp at hx; rcases hx with rfl | rfl <;> rfl
set_option maxHeartbeats 4000000 in
theorem c50 (w : World) : CallsTo Try.prog 50 [] w fun v w' => v = .bool true ∧ Grew w w' := by
  refine go_in (n := 55) (St.refl _ NoF) Try.func50 rfl rfl ?_
  repeat' (
    first
    | (
      first
      | (apply kp; iterate 2 exact rfl)
      | apply ja | apply jb | apply jg | apply jj | (apply je; exact rfl) | (apply jf; exact rfl) | apply jd | apply jh | apply ji | (apply jc; kernel_rfl) | apply jk | apply jl | apply jm | apply jn | apply jo | (apply jp; exact rfl) | apply jq | apply jr | apply js | apply jt | apply ju | apply jv | apply jw | apply kN | apply kM
      | (apply kf; iterate 2 exact rfl)
      | (apply ko; (· exact rfl); (· repeat (first | exact mH _ _ | apply mT)); iterate 2 exact rfl)
      | (apply ka; (· exact rfl); (· repeat (first | exact mH _ _ | apply mT)); iterate 2 exact rfl)
      | (apply kr; (· exact rfl); (· repeat (first | exact mH _ _ | apply mT)); iterate 3 exact rfl)
      | (apply ks; (· exact rfl); (· repeat (first | exact mH _ _ | apply mT)); iterate 2 exact rfl)
      | (apply kn; iterate 2 exact rfl)
      | (apply ke; iterate 2 exact rfl)
      | (apply kx; iterate 2 exact rfl)
      | (apply kc; iterate 2 exact rfl)
      | (apply kb; iterate 2 exact rfl)
      | (apply kg; iterate 2 exact rfl)
      | (apply kG; iterate 3 exact rfl)
      | (apply kB; (iterate 2 exact rfl); intro _)
      | (apply kA; exact rfl; intro _)
      | (apply kL; (iterate 3 exact rfl); (· repeat (first | exact BS.nil _ | (apply BS.int; exact rfl) | (apply BS.ptr; exact rfl) | (apply BS.slice; exact rfl) | (apply BS.agg; iterate 2 exact rfl))); intro _)
      | (apply kT; (iterate 2 exact rfl); (· repeat (first | exact sH _ _ _ | apply sT)); iterate 2 exact rfl)
      | (apply kS; (iterate 2 exact rfl); (· repeat (first | exact sH _ _ _ | apply sT)); exact rfl)
      | (apply kh; (iterate 2 exact rfl); (first | decide | omega); exact rfl)
      | (apply kl; (iterate 2 exact rfl); (first | decide | omega); exact rfl)
      )
    | ((first | (apply kR; (· exact rfl); (· exact rfl)) | (apply kQ; (· exact rfl))); all_goals (intro hc; try simp only [decide_eq_true_eq, decide_eq_false_iff_not, Bool.not_eq_true', Bool.not_eq_false', Bool.not_eq_true, Bool.not_eq_false, Bool.not_true, Bool.not_false, Int.not_lt, Int.not_le, List.cons.injEq, and_true, beq_iff_eq, beq_eq_false_iff_ne] at hc; try (exfalso; first | contradiction | omega)))
    )
  apply LR.call
  · exact rfl
  intro w1 h1
  refine (c38 w1).mono ?_
  rintro v w2 ⟨b, rfl, hn⟩
  have h2 : St w NoF [qO b 0 (List.replicate 32 zeroA) []] w2 := ((h1.got hn (Asrt.dep_own _ _)).bun_nil MsgA.dep).swap.join rfl rfl
  refine LR.back h2 ?_
  clear h2 h1 hn
  repeat' (
    first
    | (
      first
      | (apply kp; iterate 2 exact rfl)
      | apply ja | apply jb | apply jg | apply jj | (apply je; exact rfl) | (apply jf; exact rfl) | apply jd | apply jh | apply ji | (apply jc; kernel_rfl) | apply jk | apply jl | apply jm | apply jn | apply jo | (apply jp; exact rfl) | apply jq | apply jr | apply js | apply jt | apply ju | apply jv | apply jw | apply kN | apply kM
      | (apply kf; iterate 2 exact rfl)
      | (apply ko; (· exact rfl); (· repeat (first | exact mH _ _ | apply mT)); iterate 2 exact rfl)
      | (apply ka; (· exact rfl); (· repeat (first | exact mH _ _ | apply mT)); iterate 2 exact rfl)
      | (apply kr; (· exact rfl); (· repeat (first | exact mH _ _ | apply mT)); iterate 3 exact rfl)
      | (apply ks; (· exact rfl); (· repeat (first | exact mH _ _ | apply mT)); iterate 2 exact rfl)
      | (apply kn; iterate 2 exact rfl)
      | (apply ke; iterate 2 exact rfl)
      | (apply kx; iterate 2 exact rfl)
      | (apply kc; iterate 2 exact rfl)
      | (apply kb; iterate 2 exact rfl)
      | (apply kg; iterate 2 exact rfl)
      | (apply kG; iterate 3 exact rfl)
      | (apply kB; (iterate 2 exact rfl); intro _)
      | (apply kA; exact rfl; intro _)
      | (apply kL; (iterate 3 exact rfl); (· repeat (first | exact BS.nil _ | (apply BS.int; exact rfl) | (apply BS.ptr; exact rfl) | (apply BS.slice; exact rfl) | (apply BS.agg; iterate 2 exact rfl))); intro _)
      | (apply kT; (iterate 2 exact rfl); (· repeat (first | exact sH _ _ _ | apply sT)); iterate 2 exact rfl)
      | (apply kS; (iterate 2 exact rfl); (· repeat (first | exact sH _ _ _ | apply sT)); exact rfl)
      | (apply kh; (iterate 2 exact rfl); (first | decide | omega); exact rfl)
      | (apply kl; (iterate 2 exact rfl); (first | decide | omega); exact rfl)
      )
    | ((first | (apply kR; (· exact rfl); (· exact rfl)) | (apply kQ; (· exact rfl))); all_goals (intro hc; try simp only [decide_eq_true_eq, decide_eq_false_iff_not, Bool.not_eq_true', Bool.not_eq_false', Bool.not_eq_true, Bool.not_eq_false, Bool.not_true, Bool.not_false, Int.not_lt, Int.not_le, List.cons.injEq, and_true, beq_iff_eq, beq_eq_false_iff_ne] at hc; try (exfalso; first | contradiction | omega)))
    )
  apply LR.call
  · exact rfl
  intro w1 h1
  refine (c52 5 2 w1 (by omega)).mono ?_
  rintro v w2 ⟨a1, c1, l1, rfl, hl1, st⟩
  refine LR.back (h1.pushL st excl2) ?_
  clear h1 st
  have n1 : l1.length = 2 := by have := congrArg List.length hl1; simpa [textsL] using this
  have k1 := textsL_ok (by omega) hl1
  repeat' (
    first
    | (
      first
      | (apply kp; iterate 2 exact rfl)
      | apply ja | apply jb | apply jg | apply jj | (apply je; exact rfl) | (apply jf; exact rfl) | apply jd | apply jh | apply ji | (apply jc; kernel_rfl) | apply jk | apply jl | apply jm | apply jn | apply jo | (apply jp; exact rfl) | apply jq | apply jr | apply js | apply jt | apply ju | apply jv | apply jw | apply kN | apply kM
      | (apply kf; iterate 2 exact rfl)
      | (apply ko; (· exact rfl); (· repeat (first | exact mH _ _ | apply mT)); iterate 2 exact rfl)
      | (apply ka; (· exact rfl); (· repeat (first | exact mH _ _ | apply mT)); iterate 2 exact rfl)
      | (apply kr; (· exact rfl); (· repeat (first | exact mH _ _ | apply mT)); iterate 3 exact rfl)
      | (apply ks; (· exact rfl); (· repeat (first | exact mH _ _ | apply mT)); iterate 2 exact rfl)
      | (apply kn; iterate 2 exact rfl)
      | (apply ke; iterate 2 exact rfl)
      | (apply kx; iterate 2 exact rfl)
      | (apply kc; iterate 2 exact rfl)
      | (apply kb; iterate 2 exact rfl)
      | (apply kg; iterate 2 exact rfl)
      | (apply kG; iterate 3 exact rfl)
      | (apply kB; (iterate 2 exact rfl); intro _)
      | (apply kA; exact rfl; intro _)
      | (apply kL; (iterate 3 exact rfl); (· repeat (first | exact BS.nil _ | (apply BS.int; exact rfl) | (apply BS.ptr; exact rfl) | (apply BS.slice; exact rfl) | (apply BS.agg; iterate 2 exact rfl))); intro _)
      | (apply kT; (iterate 2 exact rfl); (· repeat (first | exact sH _ _ _ | apply sT)); iterate 2 exact rfl)
      | (apply kS; (iterate 2 exact rfl); (· repeat (first | exact sH _ _ _ | apply sT)); exact rfl)
      | (apply kh; (iterate 2 exact rfl); (first | decide | omega); exact rfl)
      | (apply kl; (iterate 2 exact rfl); (first | decide | omega); exact rfl)
      )
    | ((first | (apply kR; (· exact rfl); (· exact rfl)) | (apply kQ; (· exact rfl))); all_goals (intro hc; try simp only [decide_eq_true_eq, decide_eq_false_iff_not, Bool.not_eq_true', Bool.not_eq_false', Bool.not_eq_true, Bool.not_eq_false, Bool.not_true, Bool.not_false, Int.not_lt, Int.not_le, List.cons.injEq, and_true, beq_iff_eq, beq_eq_false_iff_ne] at hc; try (exfalso; first | contradiction | omega)))
    )
  apply LR.call
  · exact rfl
  intro w1 h1
  have hh := put_lent (al := a1) (cl := c1) (l := l1) h1 (mH _ _) QRep.start (fun x hx => ⟨(k1 x hx).2.1, by rw [(k1 x hx).2.2]; omega⟩) (by omega)
  rw [qputE_ok (n := ([] : List MsgA).length) (fun x hx => (k1 x hx).1) (by simp; omega)] at hh
  refine CallsTo.mono hh ?_
  clear hh
  rintro v w2 ⟨s1, L1, rfl, r1, m1, st⟩
  have h2 := h1.one' st rfl (qO_dep _ _ _ _) (by (repeat (first | exact sH _ _ _ | apply sT)))
  refine LR.back (h2.sub (L' := [qO b 0 s1 L1]) (by repeat (first | exact List.Sublist.refl _ | apply List.Sublist.cons_cons | apply List.Sublist.cons))) ?_
  clear h2 h1 st
  repeat' (
    first
    | (
      first
      | (apply kp; iterate 2 exact rfl)
      | apply ja | apply jb | apply jg | apply jj | (apply je; exact rfl) | (apply jf; exact rfl) | apply jd | apply jh | apply ji | (apply jc; kernel_rfl) | apply jk | apply jl | apply jm | apply jn | apply jo | (apply jp; exact rfl) | apply jq | apply jr | apply js | apply jt | apply ju | apply jv | apply jw | apply kN | apply kM
      | (apply kf; iterate 2 exact rfl)
      | (apply ko; (· exact rfl); (· repeat (first | exact mH _ _ | apply mT)); iterate 2 exact rfl)
      | (apply ka; (· exact rfl); (· repeat (first | exact mH _ _ | apply mT)); iterate 2 exact rfl)
      | (apply kr; (· exact rfl); (· repeat (first | exact mH _ _ | apply mT)); iterate 3 exact rfl)
      | (apply ks; (· exact rfl); (· repeat (first | exact mH _ _ | apply mT)); iterate 2 exact rfl)
      | (apply kn; iterate 2 exact rfl)
      | (apply ke; iterate 2 exact rfl)
      | (apply kx; iterate 2 exact rfl)
      | (apply kc; iterate 2 exact rfl)
      | (apply kb; iterate 2 exact rfl)
      | (apply kg; iterate 2 exact rfl)
      | (apply kG; iterate 3 exact rfl)
      | (apply kB; (iterate 2 exact rfl); intro _)
      | (apply kA; exact rfl; intro _)
      | (apply kL; (iterate 3 exact rfl); (· repeat (first | exact BS.nil _ | (apply BS.int; exact rfl) | (apply BS.ptr; exact rfl) | (apply BS.slice; exact rfl) | (apply BS.agg; iterate 2 exact rfl))); intro _)
      | (apply kT; (iterate 2 exact rfl); (· repeat (first | exact sH _ _ _ | apply sT)); iterate 2 exact rfl)
      | (apply kS; (iterate 2 exact rfl); (· repeat (first | exact sH _ _ _ | apply sT)); exact rfl)
      | (apply kh; (iterate 2 exact rfl); (first | decide | omega); exact rfl)
      | (apply kl; (iterate 2 exact rfl); (first | decide | omega); exact rfl)
      )
    | ((first | (apply kR; (· exact rfl); (· exact rfl)) | (apply kQ; (· exact rfl))); all_goals (intro hc; try simp only [decide_eq_true_eq, decide_eq_false_iff_not, Bool.not_eq_true', Bool.not_eq_false', Bool.not_eq_true, Bool.not_eq_false, Bool.not_true, Bool.not_false, Int.not_lt, Int.not_le, List.cons.injEq, and_true, beq_iff_eq, beq_eq_false_iff_ne] at hc; try (exfalso; first | contradiction | omega)))
    )
  have q1 : L1.length = 2 := by have := congrArg List.length m1; simp at this; omega
  apply LR.call
  · exact rfl
  intro w1 h1
  refine (c52 0 31 w1 (by omega)).mono ?_
  rintro v w2 ⟨a2, c2, l2, rfl, hl2, st⟩
  refine LR.back (h1.pushL st excl2) ?_
  clear h1 st
  have n2 : l2.length = 31 := by have := congrArg List.length hl2; simpa [textsL] using this
  have k2 := textsL_ok (by omega) hl2
  repeat' (
    first
    | (
      first
      | (apply kp; iterate 2 exact rfl)
      | apply ja | apply jb | apply jg | apply jj | (apply je; exact rfl) | (apply jf; exact rfl) | apply jd | apply jh | apply ji | (apply jc; kernel_rfl) | apply jk | apply jl | apply jm | apply jn | apply jo | (apply jp; exact rfl) | apply jq | apply jr | apply js | apply jt | apply ju | apply jv | apply jw | apply kN | apply kM
      | (apply kf; iterate 2 exact rfl)
      | (apply ko; (· exact rfl); (· repeat (first | exact mH _ _ | apply mT)); iterate 2 exact rfl)
      | (apply ka; (· exact rfl); (· repeat (first | exact mH _ _ | apply mT)); iterate 2 exact rfl)
      | (apply kr; (· exact rfl); (· repeat (first | exact mH _ _ | apply mT)); iterate 3 exact rfl)
      | (apply ks; (· exact rfl); (· repeat (first | exact mH _ _ | apply mT)); iterate 2 exact rfl)
      | (apply kn; iterate 2 exact rfl)
      | (apply ke; iterate 2 exact rfl)
      | (apply kx; iterate 2 exact rfl)
      | (apply kc; iterate 2 exact rfl)
      | (apply kb; iterate 2 exact rfl)
      | (apply kg; iterate 2 exact rfl)
      | (apply kG; iterate 3 exact rfl)
      | (apply kB; (iterate 2 exact rfl); intro _)
      | (apply kA; exact rfl; intro _)
      | (apply kL; (iterate 3 exact rfl); (· repeat (first | exact BS.nil _ | (apply BS.int; exact rfl) | (apply BS.ptr; exact rfl) | (apply BS.slice; exact rfl) | (apply BS.agg; iterate 2 exact rfl))); intro _)
      | (apply kT; (iterate 2 exact rfl); (· repeat (first | exact sH _ _ _ | apply sT)); iterate 2 exact rfl)
      | (apply kS; (iterate 2 exact rfl); (· repeat (first | exact sH _ _ _ | apply sT)); exact rfl)
      | (apply kh; (iterate 2 exact rfl); (first | decide | omega); exact rfl)
      | (apply kl; (iterate 2 exact rfl); (first | decide | omega); exact rfl)
      )
    | ((first | (apply kR; (· exact rfl); (· exact rfl)) | (apply kQ; (· exact rfl))); all_goals (intro hc; try simp only [decide_eq_true_eq, decide_eq_false_iff_not, Bool.not_eq_true', Bool.not_eq_false', Bool.not_eq_true, Bool.not_eq_false, Bool.not_true, Bool.not_false, Int.not_lt, Int.not_le, List.cons.injEq, and_true, beq_iff_eq, beq_eq_false_iff_ne] at hc; try (exfalso; first | contradiction | omega)))
    )
  apply LR.call
  · exact rfl
  intro w1 h1
  have hh := put_lent (al := a2) (cl := c2) (l := l2) h1 (mH _ _) r1 (fun x hx => ⟨(k2 x hx).2.1, by rw [(k2 x hx).2.2]; omega⟩) (by omega)
  rw [qputE_full (n := L1.length) (fun x hx => (k2 x hx).1) (by omega) (by omega)] at hh
  refine CallsTo.mono hh ?_
  clear hh
  rintro v w2 ⟨s2, L2, rfl, r2, m2, st⟩
  have h2 := h1.one' st rfl (qO_dep _ _ _ _) (by (repeat (first | exact sH _ _ _ | apply sT)))
  refine LR.back (h2.sub (L' := [qO b 0 s2 L2]) (by repeat (first | exact List.Sublist.refl _ | apply List.Sublist.cons_cons | apply List.Sublist.cons))) ?_
  clear h2 h1 st
  repeat' (
    first
    | (
      first
      | (apply kp; iterate 2 exact rfl)
      | apply ja | apply jb | apply jg | apply jj | (apply je; exact rfl) | (apply jf; exact rfl) | apply jd | apply jh | apply ji | (apply jc; kernel_rfl) | apply jk | apply jl | apply jm | apply jn | apply jo | (apply jp; exact rfl) | apply jq | apply jr | apply js | apply jt | apply ju | apply jv | apply jw | apply kN | apply kM
      | (apply kf; iterate 2 exact rfl)
      | (apply ko; (· exact rfl); (· repeat (first | exact mH _ _ | apply mT)); iterate 2 exact rfl)
      | (apply ka; (· exact rfl); (· repeat (first | exact mH _ _ | apply mT)); iterate 2 exact rfl)
      | (apply kr; (· exact rfl); (· repeat (first | exact mH _ _ | apply mT)); iterate 3 exact rfl)
      | (apply ks; (· exact rfl); (· repeat (first | exact mH _ _ | apply mT)); iterate 2 exact rfl)
      | (apply kn; iterate 2 exact rfl)
      | (apply ke; iterate 2 exact rfl)
      | (apply kx; iterate 2 exact rfl)
      | (apply kc; iterate 2 exact rfl)
      | (apply kb; iterate 2 exact rfl)
      | (apply kg; iterate 2 exact rfl)
      | (apply kG; iterate 3 exact rfl)
      | (apply kB; (iterate 2 exact rfl); intro _)
      | (apply kA; exact rfl; intro _)
      | (apply kL; (iterate 3 exact rfl); (· repeat (first | exact BS.nil _ | (apply BS.int; exact rfl) | (apply BS.ptr; exact rfl) | (apply BS.slice; exact rfl) | (apply BS.agg; iterate 2 exact rfl))); intro _)
      | (apply kT; (iterate 2 exact rfl); (· repeat (first | exact sH _ _ _ | apply sT)); iterate 2 exact rfl)
      | (apply kS; (iterate 2 exact rfl); (· repeat (first | exact sH _ _ _ | apply sT)); exact rfl)
      | (apply kh; (iterate 2 exact rfl); (first | decide | omega); exact rfl)
      | (apply kl; (iterate 2 exact rfl); (first | decide | omega); exact rfl)
      )
    | ((first | (apply kR; (· exact rfl); (· exact rfl)) | (apply kQ; (· exact rfl))); all_goals (intro hc; try simp only [decide_eq_true_eq, decide_eq_false_iff_not, Bool.not_eq_true', Bool.not_eq_false', Bool.not_eq_true, Bool.not_eq_false, Bool.not_true, Bool.not_false, Int.not_lt, Int.not_le, List.cons.injEq, and_true, beq_iff_eq, beq_eq_false_iff_ne] at hc; try (exfalso; first | contradiction | omega)))
    )
  have q2 : L2.length = 2 := by have := congrArg List.length m2; simp at this; omega
  apply LR.call
  · exact rfl
  intro w1 h1
  refine (c52 7 30 w1 (by omega)).mono ?_
  rintro v w2 ⟨a3, c3, l3, rfl, hl3, st⟩
  refine LR.back (h1.pushL st excl2) ?_
  clear h1 st
  have n3 : l3.length = 30 := by have := congrArg List.length hl3; simpa [textsL] using this
  have k3 := textsL_ok (by omega) hl3
  repeat' (
    first
    | (
      first
      | (apply kp; iterate 2 exact rfl)
      | apply ja | apply jb | apply jg | apply jj | (apply je; exact rfl) | (apply jf; exact rfl) | apply jd | apply jh | apply ji | (apply jc; kernel_rfl) | apply jk | apply jl | apply jm | apply jn | apply jo | (apply jp; exact rfl) | apply jq | apply jr | apply js | apply jt | apply ju | apply jv | apply jw | apply kN | apply kM
      | (apply kf; iterate 2 exact rfl)
      | (apply ko; (· exact rfl); (· repeat (first | exact mH _ _ | apply mT)); iterate 2 exact rfl)
      | (apply ka; (· exact rfl); (· repeat (first | exact mH _ _ | apply mT)); iterate 2 exact rfl)
      | (apply kr; (· exact rfl); (· repeat (first | exact mH _ _ | apply mT)); iterate 3 exact rfl)
      | (apply ks; (· exact rfl); (· repeat (first | exact mH _ _ | apply mT)); iterate 2 exact rfl)
      | (apply kn; iterate 2 exact rfl)
      | (apply ke; iterate 2 exact rfl)
      | (apply kx; iterate 2 exact rfl)
      | (apply kc; iterate 2 exact rfl)
      | (apply kb; iterate 2 exact rfl)
      | (apply kg; iterate 2 exact rfl)
      | (apply kG; iterate 3 exact rfl)
      | (apply kB; (iterate 2 exact rfl); intro _)
      | (apply kA; exact rfl; intro _)
      | (apply kL; (iterate 3 exact rfl); (· repeat (first | exact BS.nil _ | (apply BS.int; exact rfl) | (apply BS.ptr; exact rfl) | (apply BS.slice; exact rfl) | (apply BS.agg; iterate 2 exact rfl))); intro _)
      | (apply kT; (iterate 2 exact rfl); (· repeat (first | exact sH _ _ _ | apply sT)); iterate 2 exact rfl)
      | (apply kS; (iterate 2 exact rfl); (· repeat (first | exact sH _ _ _ | apply sT)); exact rfl)
      | (apply kh; (iterate 2 exact rfl); (first | decide | omega); exact rfl)
      | (apply kl; (iterate 2 exact rfl); (first | decide | omega); exact rfl)
      )
    | ((first | (apply kR; (· exact rfl); (· exact rfl)) | (apply kQ; (· exact rfl))); all_goals (intro hc; try simp only [decide_eq_true_eq, decide_eq_false_iff_not, Bool.not_eq_true', Bool.not_eq_false', Bool.not_eq_true, Bool.not_eq_false, Bool.not_true, Bool.not_false, Int.not_lt, Int.not_le, List.cons.injEq, and_true, beq_iff_eq, beq_eq_false_iff_ne] at hc; try (exfalso; first | contradiction | omega)))
    )
  apply LR.call
  · exact rfl
  intro w1 h1
  have hh := put_lent (al := a3) (cl := c3) (l := l3) h1 (mH _ _) r2 (fun x hx => ⟨(k3 x hx).2.1, by rw [(k3 x hx).2.2]; omega⟩) (by omega)
  rw [qputE_ok (n := L2.length) (fun x hx => (k3 x hx).1) (by omega)] at hh
  refine CallsTo.mono hh ?_
  clear hh
  rintro v w2 ⟨s3, L3, rfl, r3, m3, st⟩
  have h2 := h1.one' st rfl (qO_dep _ _ _ _) (by (repeat (first | exact sH _ _ _ | apply sT)))
  refine LR.back (h2.sub (L' := [qO b 0 s3 L3]) (by repeat (first | exact List.Sublist.refl _ | apply List.Sublist.cons_cons | apply List.Sublist.cons))) ?_
  clear h2 h1 st
  have q3 : L3.length = 32 := by have := congrArg List.length m3; simp at this; omega
  have m4 : L3.map MsgA.m = textsL 5 2 ++ textsL 7 30 := by
    simp only [if_true, show ¬ ((7 : Int) = 0) by omega, if_false, List.append_nil, List.map_nil, List.nil_append] at m1 m2 m3
    rw [m3, m2, m1, hl1, hl3]
  obtain ⟨x, L4, rfl⟩ : ∃ x L4, L3 = x :: L4 := by cases L3 with | nil => simp at q3 | cons x r => exact ⟨x, r, rfl⟩
  have mx : x.m = textN 5 := Option.some.inj (congrArg List.head? m4)
  have rdQ : ∀ w', (qO b 0 s3 (x :: L4)).holds w' → Rd w' (some ⟨b, 0, none⟩) (qcells 0 32 s3) := fun w' h => by have := qO_rd h; rw [q3] at this; exact this
  repeat' (
    first
    | (
      first
      | (apply kp; iterate 2 exact rfl)
      | apply ja | apply jb | apply jg | apply jj | (apply je; exact rfl) | (apply jf; exact rfl) | apply jd | apply jh | apply ji | (apply jc; kernel_rfl) | apply jk | apply jl | apply jm | apply jn | apply jo | (apply jp; exact rfl) | apply jq | apply jr | apply js | apply jt | apply ju | apply jv | apply jw | apply kN | apply kM
      | (apply kf; iterate 2 exact rfl)
      | (apply ko; (· exact rfl); (· repeat (first | exact mH _ _ | apply mT)); iterate 2 exact rfl)
      | (apply ka; (· exact rfl); (· repeat (first | exact mH _ _ | apply mT)); iterate 2 exact rfl)
      | (apply kr; (· exact rfl); (· repeat (first | exact mH _ _ | apply mT)); iterate 3 exact rfl)
      | (apply ks; (· exact rfl); (· repeat (first | exact mH _ _ | apply mT)); iterate 2 exact rfl)
      | (apply kn; iterate 2 exact rfl)
      | (apply ke; iterate 2 exact rfl)
      | (apply kx; iterate 2 exact rfl)
      | (apply kc; iterate 2 exact rfl)
      | (apply kb; iterate 2 exact rfl)
      | (apply kg; iterate 2 exact rfl)
      | (apply kG; iterate 3 exact rfl)
      | (apply kB; (iterate 2 exact rfl); intro _)
      | (apply kA; exact rfl; intro _)
      | (apply kL; (iterate 3 exact rfl); (· repeat (first | exact BS.nil _ | (apply BS.int; exact rfl) | (apply BS.ptr; exact rfl) | (apply BS.slice; exact rfl) | (apply BS.agg; iterate 2 exact rfl))); intro _)
      | (apply kT; (iterate 2 exact rfl); (· repeat (first | exact sH _ _ _ | apply sT)); iterate 2 exact rfl)
      | (apply kS; (iterate 2 exact rfl); (· repeat (first | exact sH _ _ _ | apply sT)); exact rfl)
      | (apply kh; (iterate 2 exact rfl); (first | decide | omega); exact rfl)
      | (apply kl; (iterate 2 exact rfl); (first | decide | omega); exact rfl)
      )
    | (apply kq; (· exact rfl); (· intro w1 h1; first | exact CallsTo.q (c46 b 0 32 s3 w1 (rdQ w1 (h1.holds _ (by (repeat (first | exact mH _ _ | apply mT)))))) h1 | exact CallsTo.q (c48 b 0 32 s3 w1 (rdQ w1 (h1.holds _ (by (repeat (first | exact mH _ _ | apply mT))))) (by omega)) h1))
    | ((first | (apply kR; (· exact rfl); (· exact rfl)) | (apply kQ; (· exact rfl))); all_goals (intro hc; try simp only [decide_eq_true_eq, decide_eq_false_iff_not, Bool.not_eq_true', Bool.not_eq_false', Bool.not_eq_true, Bool.not_eq_false, Bool.not_true, Bool.not_false, Int.not_lt, Int.not_le, List.cons.injEq, and_true, beq_iff_eq, beq_eq_false_iff_ne] at hc; try (exfalso; first | contradiction | omega)))
    )
  apply LR.call
  · exact rfl
  intro w1 h1
  refine (take_own b 0 s3 L4 x w1 (h1.holds _ (by (repeat (first | exact mH _ _ | apply mT)))) r3).mono ?_
  rintro v w2 ⟨rfl, s4, r4, st⟩
  have q4 : L4.length = 31 := by simp at q3; omega
  have h2 := h1.two st rfl rfl rfl (by (repeat (first | exact sH _ _ _ | apply sT)))
  refine LR.back h2 ?_
  clear h2 h1 st
  have rdQ4 : ∀ w', (qO b ((0 + 1) % 32) s4 L4).holds w' → Rd w' (some ⟨b, 0, none⟩) (qcells ((0 + 1) % 32) 31 s4) := fun w' h => by have := qO_rd h; rw [q4] at this; exact this
  have hxl : x.m.body.length ≤ 140737488355328 := by rw [mx]; simp [textN]
  repeat' (
    first
    | (apply CW.reg_held (St w NoF [.own _ (.cells (x.m.cells x.a x.c).toArray 28 (0, 0))]))
    | (
      first
      | (apply kp; iterate 2 exact rfl)
      | apply ja | apply jb | apply jg | apply jj | (apply je; exact rfl) | (apply jf; exact rfl) | apply jd | apply jh | apply ji | (apply jc; kernel_rfl) | apply jk | apply jl | apply jm | apply jn | apply jo | (apply jp; exact rfl) | apply jq | apply jr | apply js | apply jt | apply ju | apply jv | apply jw | apply kN | apply kM
      | (apply kf; iterate 2 exact rfl)
      | (apply ko; (· exact rfl); (· repeat (first | exact mH _ _ | apply mT)); iterate 2 exact rfl)
      | (apply ka; (· exact rfl); (· repeat (first | exact mH _ _ | apply mT)); iterate 2 exact rfl)
      | (apply kr; (· exact rfl); (· repeat (first | exact mH _ _ | apply mT)); iterate 3 exact rfl)
      | (apply ks; (· exact rfl); (· repeat (first | exact mH _ _ | apply mT)); iterate 2 exact rfl)
      | (apply kn; iterate 2 exact rfl)
      | (apply ke; iterate 2 exact rfl)
      | (apply kx; iterate 2 exact rfl)
      | (apply kc; iterate 2 exact rfl)
      | (apply kb; iterate 2 exact rfl)
      | (apply kg; iterate 2 exact rfl)
      | (apply kG; iterate 3 exact rfl)
      | (apply kB; (iterate 2 exact rfl); intro _)
      | (apply kA; exact rfl; intro _)
      | (apply kL; (iterate 3 exact rfl); (· repeat (first | exact BS.nil _ | (apply BS.int; exact rfl) | (apply BS.ptr; exact rfl) | (apply BS.slice; exact rfl) | (apply BS.agg; iterate 2 exact rfl))); intro _)
      | (apply kT; (iterate 2 exact rfl); (· repeat (first | exact sH _ _ _ | apply sT)); iterate 2 exact rfl)
      | (apply kS; (iterate 2 exact rfl); (· repeat (first | exact sH _ _ _ | apply sT)); exact rfl)
      | (apply kh; (iterate 2 exact rfl); (first | decide | omega); exact rfl)
      | (apply kl; (iterate 2 exact rfl); (first | decide | omega); exact rfl)
      )
    | ((first | (apply kR; (· exact rfl); (· exact rfl)) | (apply kQ; (· exact rfl))); all_goals (intro hc; try simp only [decide_eq_true_eq, decide_eq_false_iff_not, Bool.not_eq_true', Bool.not_eq_false', Bool.not_eq_true, Bool.not_eq_false, Bool.not_true, Bool.not_false, Int.not_lt, Int.not_le, List.cons.injEq, and_true, beq_iff_eq, beq_eq_false_iff_ne] at hc; try (exfalso; first | contradiction | omega)))
    )
  all_goals (
    apply DW.quiet [0, 1, 2, 3]
    · decide +kernel
    · first | exact fun _ h => h | exact fun _ h => St.sub h (by repeat (first | exact List.Sublist.refl _ | apply List.Sublist.cons_cons | apply List.Sublist.cons))
    repeat' (
      first
      | (apply yp; iterate 3 exact rfl)
      | (apply QL.ev; exact rfl
         · first
           | (apply Ev.load_own; (· exact rfl); (· repeat (first | exact mH _ _ | apply mT)); exact rfl)
           | (apply Ev.load_agg; (· exact rfl); (· repeat (first | exact mH _ _ | apply mT)); exact rfl)
           | (apply Ev.load_rdq; (· exact rfl); (· repeat (first | exact mH _ _ | apply mT)); iterate 2 exact rfl)
           | (apply Ev.load_ardq; (· exact rfl); (· repeat (first | exact mH _ _ | apply mT)); exact rfl)
           | (apply Ev.fieldAddr; exact rfl)
           | (apply Ev.len; exact rfl)
           | (apply EqOf.eq; exact rfl)
           | (apply EqOf.ne; exact rfl)
           | (apply Ev.conv; exact rfl)
           | (apply Ev.buildN; exact rfl)
           | (apply Ev.shr; (iterate 2 exact rfl); first | decide | omega)
           | (apply Ev.shl; (iterate 2 exact rfl); first | decide | omega)
         · exact rfl)
      | (apply yq; iterate 5 exact rfl)
      | (apply QL.evg; iterate 3 exact rfl
         · first
           | (apply Ev.load_own; (· exact rfl); (· repeat (first | exact mH _ _ | apply mT)); exact rfl)
           | (apply Ev.load_agg; (· exact rfl); (· repeat (first | exact mH _ _ | apply mT)); exact rfl)
           | (apply Ev.load_rdq; (· exact rfl); (· repeat (first | exact mH _ _ | apply mT)); iterate 2 exact rfl)
           | (apply Ev.load_ardq; (· exact rfl); (· repeat (first | exact mH _ _ | apply mT)); exact rfl)
           | (apply Ev.fieldAddr; exact rfl)
           | (apply Ev.len; exact rfl)
           | (apply EqOf.eq; exact rfl)
           | (apply EqOf.ne; exact rfl)
           | (apply Ev.conv; exact rfl)
           | (apply Ev.buildN; exact rfl)
           | (apply Ev.shr; (iterate 2 exact rfl); first | decide | omega)
           | (apply Ev.shl; (iterate 2 exact rfl); first | decide | omega)
         · exact rfl)
      | (apply yn; iterate 4 exact rfl)
      | ((apply QL.split; (· exact rfl); (· exact rfl); (· exact rfl)); all_goals (intro hc; try simp only [decide_eq_true_eq, decide_eq_false_iff_not, Bool.not_eq_true', Bool.not_eq_false', Bool.not_eq_true, Bool.not_eq_false, Bool.not_true, Bool.not_false, Int.not_lt, Int.not_le, List.cons.injEq, and_true, beq_iff_eq, beq_eq_false_iff_ne] at hc; try (exfalso; first | contradiction | omega)))
      | apply QL.nil
      )
    all_goals (show DW _ _ _ _ _ _ _ _))
  all_goals (
    apply DW.loud 4
    · exact rfl
    · decide +kernel
    repeat' (
      first
      | (apply kg; iterate 2 exact rfl)
      | (apply kG; iterate 3 exact rfl)
      | apply kM
      | (
        first
        | (apply kp; iterate 2 exact rfl)
        | (apply ko; (· exact rfl); (· repeat (first | exact mH _ _ | apply mT)); iterate 2 exact rfl)
        | (apply ka; (· exact rfl); (· repeat (first | exact mH _ _ | apply mT)); iterate 2 exact rfl)
        | (apply kL; (iterate 3 exact rfl); (· repeat (first | exact BS.nil _ | (apply BS.int; exact rfl) | (apply BS.ptr; exact rfl) | (apply BS.slice; exact rfl) | (apply BS.agg; iterate 2 exact rfl))); intro _)
        | (apply kT; (iterate 2 exact rfl); (· repeat (first | exact sH _ _ _ | apply sT)); iterate 2 exact rfl)
        | (apply kS; (iterate 2 exact rfl); (· repeat (first | exact sH _ _ _ | apply sT)); exact rfl)
        | (apply kB; (iterate 2 exact rfl); intro _)
        | (apply kA; exact rfl; intro _)
        )
      | (apply LR.call; (· exact rfl); (intro w1 h1; refine (c51 5 w1 (by decide)).mono ?_; rintro v w2 ⟨at_, ct, rfl, hn1⟩; refine LR.back (h1.newSl hn1) ?_; clear hn1 h1; apply kM))
      | (apply kq; (· exact rfl); (· intro w1 h1; have hq := CallsTo.q (c20 x.m (textN 5) x.a at_ x.c ct w1 (h1.rd_of_own (by (repeat (first | exact mH _ _ | apply mT)))) (h1.rd_of_own (by (repeat (first | exact mH _ _ | apply mT)))) hxl) h1; rw [show sameB x.m (textN 5) = true by rw [mx]; exact sameB_self _] at hq; show CallsTo Try.prog 20 [x.m.val x.a x.c, (textN 5).val at_ ct] w1 _; exact hq))
      | (apply kq; (· exact rfl); (· intro w1 h1; exact CallsTo.q (c48 b _ 31 s4 w1 (rdQ4 w1 (h1.holds _ (by (repeat (first | exact mH _ _ | apply mT))))) (by omega)) h1))
      | (apply LR.call; (· exact rfl); (intro w1 h1; have hh := c41 b ((0 + 1) % 32) s4 L4 (some ⟨_, 0, none⟩) 1 [zeroA] w1 (h1.holds _ (by (repeat (first | exact mH _ _ | apply mT)))) r4 (h1.rd_of_blk (mH _ _)) (fun k hk => h1.apart (y := qO b ((0 + 1) % 32) s4 L4) (by (repeat (first | exact mH _ _ | apply mT))) rfl k (by obtain ⟨_, ad, e, rfl⟩ := hk; cases e; rfl)) (fun y hy => by simp at hy; subst hy; exact zeroA_MR w1) (fun y hy k hk => by simp at hy; subst hy; exact absurd rfl hk.1) (by simp); rw [qputE_zero] at hh; refine CallsTo.mono hh ?_; clear hh; rintro v w2 ⟨s5, L5, rfl, r5, m5, st⟩; have h2 := h1.one' st rfl (qO_dep _ _ _ _) (by (repeat (first | exact sH _ _ _ | apply sT))); refine LR.back h2 ?_; clear h2 h1 st; apply kM))
      )
    all_goals (refine At.stage_same (fun _ h => St.sub h (by repeat (first | exact List.Sublist.refl _ | apply List.Sublist.cons_cons | apply List.Sublist.cons))) ?_))
  all_goals (
    apply DW.loud 5
    · exact rfl
    · decide +kernel
    repeat' (
      first
      | (apply kg; iterate 2 exact rfl)
      | (apply kG; iterate 3 exact rfl)
      | apply kM
      | (
        first
        | (apply kp; iterate 2 exact rfl)
        | (apply ko; (· exact rfl); (· repeat (first | exact mH _ _ | apply mT)); iterate 2 exact rfl)
        | (apply ka; (· exact rfl); (· repeat (first | exact mH _ _ | apply mT)); iterate 2 exact rfl)
        | (apply kL; (iterate 3 exact rfl); (· repeat (first | exact BS.nil _ | (apply BS.int; exact rfl) | (apply BS.ptr; exact rfl) | (apply BS.slice; exact rfl) | (apply BS.agg; iterate 2 exact rfl))); intro _)
        | (apply kT; (iterate 2 exact rfl); (· repeat (first | exact sH _ _ _ | apply sT)); iterate 2 exact rfl)
        | (apply kS; (iterate 2 exact rfl); (· repeat (first | exact sH _ _ _ | apply sT)); exact rfl)
        | (apply kB; (iterate 2 exact rfl); intro _)
        | (apply kA; exact rfl; intro _)
        )
      | (apply LR.call; (· exact rfl); (intro w1 h1; refine (c51 5 w1 (by decide)).mono ?_; rintro v w2 ⟨at_, ct, rfl, hn1⟩; refine LR.back (h1.newSl hn1) ?_; clear hn1 h1; apply kM))
      | (apply kq; (· exact rfl); (· intro w1 h1; have hq := CallsTo.q (c20 x.m (textN 5) x.a at_ x.c ct w1 (h1.rd_of_own (by (repeat (first | exact mH _ _ | apply mT)))) (h1.rd_of_own (by (repeat (first | exact mH _ _ | apply mT)))) hxl) h1; rw [show sameB x.m (textN 5) = true by rw [mx]; exact sameB_self _] at hq; show CallsTo Try.prog 20 [x.m.val x.a x.c, (textN 5).val at_ ct] w1 _; exact hq))
      | (apply kq; (· exact rfl); (· intro w1 h1; exact CallsTo.q (c48 b _ 31 s4 w1 (rdQ4 w1 (h1.holds _ (by (repeat (first | exact mH _ _ | apply mT))))) (by omega)) h1))
      | (apply LR.call; (· exact rfl); (intro w1 h1; have hh := c41 b ((0 + 1) % 32) s4 L4 (some ⟨_, 0, none⟩) 1 [zeroA] w1 (h1.holds _ (by (repeat (first | exact mH _ _ | apply mT)))) r4 (h1.rd_of_blk (mH _ _)) (fun k hk => h1.apart (y := qO b ((0 + 1) % 32) s4 L4) (by (repeat (first | exact mH _ _ | apply mT))) rfl k (by obtain ⟨_, ad, e, rfl⟩ := hk; cases e; rfl)) (fun y hy => by simp at hy; subst hy; exact zeroA_MR w1) (fun y hy k hk => by simp at hy; subst hy; exact absurd rfl hk.1) (by simp); rw [qputE_zero] at hh; refine CallsTo.mono hh ?_; clear hh; rintro v w2 ⟨s5, L5, rfl, r5, m5, st⟩; have h2 := h1.one' st rfl (qO_dep _ _ _ _) (by (repeat (first | exact sH _ _ _ | apply sT))); refine LR.back h2 ?_; clear h2 h1 st; apply kM))
      )
    all_goals (refine At.stage_same (fun _ h => St.sub h (by repeat (first | exact List.Sublist.refl _ | apply List.Sublist.cons_cons | apply List.Sublist.cons))) ?_))
  all_goals (
    apply DW.quiet [6, 7, 8]
    · decide +kernel
    · first | exact fun _ h => h | exact fun _ h => St.sub h (by repeat (first | exact List.Sublist.refl _ | apply List.Sublist.cons_cons | apply List.Sublist.cons))
    repeat' (
      first
      | (apply yp; iterate 3 exact rfl)
      | (apply QL.ev; exact rfl
         · first
           | (apply Ev.load_own; (· exact rfl); (· repeat (first | exact mH _ _ | apply mT)); exact rfl)
           | (apply Ev.load_agg; (· exact rfl); (· repeat (first | exact mH _ _ | apply mT)); exact rfl)
           | (apply Ev.load_rdq; (· exact rfl); (· repeat (first | exact mH _ _ | apply mT)); iterate 2 exact rfl)
           | (apply Ev.load_ardq; (· exact rfl); (· repeat (first | exact mH _ _ | apply mT)); exact rfl)
           | (apply Ev.fieldAddr; exact rfl)
           | (apply Ev.len; exact rfl)
           | (apply EqOf.eq; exact rfl)
           | (apply EqOf.ne; exact rfl)
           | (apply Ev.conv; exact rfl)
           | (apply Ev.buildN; exact rfl)
           | (apply Ev.shr; (iterate 2 exact rfl); first | decide | omega)
           | (apply Ev.shl; (iterate 2 exact rfl); first | decide | omega)
         · exact rfl)
      | (apply yq; iterate 5 exact rfl)
      | (apply QL.evg; iterate 3 exact rfl
         · first
           | (apply Ev.load_own; (· exact rfl); (· repeat (first | exact mH _ _ | apply mT)); exact rfl)
           | (apply Ev.load_agg; (· exact rfl); (· repeat (first | exact mH _ _ | apply mT)); exact rfl)
           | (apply Ev.load_rdq; (· exact rfl); (· repeat (first | exact mH _ _ | apply mT)); iterate 2 exact rfl)
           | (apply Ev.load_ardq; (· exact rfl); (· repeat (first | exact mH _ _ | apply mT)); exact rfl)
           | (apply Ev.fieldAddr; exact rfl)
           | (apply Ev.len; exact rfl)
           | (apply EqOf.eq; exact rfl)
           | (apply EqOf.ne; exact rfl)
           | (apply Ev.conv; exact rfl)
           | (apply Ev.buildN; exact rfl)
           | (apply Ev.shr; (iterate 2 exact rfl); first | decide | omega)
           | (apply Ev.shl; (iterate 2 exact rfl); first | decide | omega)
         · exact rfl)
      | (apply yn; iterate 4 exact rfl)
      | ((apply QL.split; (· exact rfl); (· exact rfl); (· exact rfl)); all_goals (intro hc; try simp only [decide_eq_true_eq, decide_eq_false_iff_not, Bool.not_eq_true', Bool.not_eq_false', Bool.not_eq_true, Bool.not_eq_false, Bool.not_true, Bool.not_false, Int.not_lt, Int.not_le, List.cons.injEq, and_true, beq_iff_eq, beq_eq_false_iff_ne] at hc; try (exfalso; first | contradiction | omega)))
      | apply QL.nil
      )
    all_goals (show DW _ _ _ _ _ _ _ _))
  all_goals (
    apply DW.loud 9
    · exact rfl
    · decide +kernel
    repeat' (
      first
      | (apply kg; iterate 2 exact rfl)
      | (apply kG; iterate 3 exact rfl)
      | apply kM
      | (
        first
        | (apply kp; iterate 2 exact rfl)
        | (apply ko; (· exact rfl); (· repeat (first | exact mH _ _ | apply mT)); iterate 2 exact rfl)
        | (apply ka; (· exact rfl); (· repeat (first | exact mH _ _ | apply mT)); iterate 2 exact rfl)
        | (apply kL; (iterate 3 exact rfl); (· repeat (first | exact BS.nil _ | (apply BS.int; exact rfl) | (apply BS.ptr; exact rfl) | (apply BS.slice; exact rfl) | (apply BS.agg; iterate 2 exact rfl))); intro _)
        | (apply kT; (iterate 2 exact rfl); (· repeat (first | exact sH _ _ _ | apply sT)); iterate 2 exact rfl)
        | (apply kS; (iterate 2 exact rfl); (· repeat (first | exact sH _ _ _ | apply sT)); exact rfl)
        | (apply kB; (iterate 2 exact rfl); intro _)
        | (apply kA; exact rfl; intro _)
        )
      | (apply LR.call; (· exact rfl); (intro w1 h1; refine (c51 5 w1 (by decide)).mono ?_; rintro v w2 ⟨at_, ct, rfl, hn1⟩; refine LR.back (h1.newSl hn1) ?_; clear hn1 h1; apply kM))
      | (apply kq; (· exact rfl); (· intro w1 h1; have hq := CallsTo.q (c20 x.m (textN 5) x.a at_ x.c ct w1 (h1.rd_of_own (by (repeat (first | exact mH _ _ | apply mT)))) (h1.rd_of_own (by (repeat (first | exact mH _ _ | apply mT)))) hxl) h1; rw [show sameB x.m (textN 5) = true by rw [mx]; exact sameB_self _] at hq; show CallsTo Try.prog 20 [x.m.val x.a x.c, (textN 5).val at_ ct] w1 _; exact hq))
      | (apply kq; (· exact rfl); (· intro w1 h1; exact CallsTo.q (c48 b _ 31 s4 w1 (rdQ4 w1 (h1.holds _ (by (repeat (first | exact mH _ _ | apply mT))))) (by omega)) h1))
      | (apply LR.call; (· exact rfl); (intro w1 h1; have hh := c41 b ((0 + 1) % 32) s4 L4 (some ⟨_, 0, none⟩) 1 [zeroA] w1 (h1.holds _ (by (repeat (first | exact mH _ _ | apply mT)))) r4 (h1.rd_of_blk (mH _ _)) (fun k hk => h1.apart (y := qO b ((0 + 1) % 32) s4 L4) (by (repeat (first | exact mH _ _ | apply mT))) rfl k (by obtain ⟨_, ad, e, rfl⟩ := hk; cases e; rfl)) (fun y hy => by simp at hy; subst hy; exact zeroA_MR w1) (fun y hy k hk => by simp at hy; subst hy; exact absurd rfl hk.1) (by simp); rw [qputE_zero] at hh; refine CallsTo.mono hh ?_; clear hh; rintro v w2 ⟨s5, L5, rfl, r5, m5, st⟩; have h2 := h1.one' st rfl (qO_dep _ _ _ _) (by (repeat (first | exact sH _ _ _ | apply sT))); refine LR.back h2 ?_; clear h2 h1 st; apply kM))
      )
    all_goals (refine At.stage_same (fun _ h => St.sub h (by repeat (first | exact List.Sublist.refl _ | apply List.Sublist.cons_cons | apply List.Sublist.cons))) ?_))
  all_goals (
    apply DW.quiet [10, 11, 12, 13, 14]
    · decide +kernel
    · first | exact fun _ h => h | exact fun _ h => St.sub h (by repeat (first | exact List.Sublist.refl _ | apply List.Sublist.cons_cons | apply List.Sublist.cons))
    repeat' (
      first
      | (apply yp; iterate 3 exact rfl)
      | (apply QL.ev; exact rfl
         · first
           | (apply Ev.load_own; (· exact rfl); (· repeat (first | exact mH _ _ | apply mT)); exact rfl)
           | (apply Ev.load_agg; (· exact rfl); (· repeat (first | exact mH _ _ | apply mT)); exact rfl)
           | (apply Ev.load_rdq; (· exact rfl); (· repeat (first | exact mH _ _ | apply mT)); iterate 2 exact rfl)
           | (apply Ev.load_ardq; (· exact rfl); (· repeat (first | exact mH _ _ | apply mT)); exact rfl)
           | (apply Ev.fieldAddr; exact rfl)
           | (apply Ev.len; exact rfl)
           | (apply EqOf.eq; exact rfl)
           | (apply EqOf.ne; exact rfl)
           | (apply Ev.conv; exact rfl)
           | (apply Ev.buildN; exact rfl)
           | (apply Ev.shr; (iterate 2 exact rfl); first | decide | omega)
           | (apply Ev.shl; (iterate 2 exact rfl); first | decide | omega)
         · exact rfl)
      | (apply yq; iterate 5 exact rfl)
      | (apply QL.evg; iterate 3 exact rfl
         · first
           | (apply Ev.load_own; (· exact rfl); (· repeat (first | exact mH _ _ | apply mT)); exact rfl)
           | (apply Ev.load_agg; (· exact rfl); (· repeat (first | exact mH _ _ | apply mT)); exact rfl)
           | (apply Ev.load_rdq; (· exact rfl); (· repeat (first | exact mH _ _ | apply mT)); iterate 2 exact rfl)
           | (apply Ev.load_ardq; (· exact rfl); (· repeat (first | exact mH _ _ | apply mT)); exact rfl)
           | (apply Ev.fieldAddr; exact rfl)
           | (apply Ev.len; exact rfl)
           | (apply EqOf.eq; exact rfl)
           | (apply EqOf.ne; exact rfl)
           | (apply Ev.conv; exact rfl)
           | (apply Ev.buildN; exact rfl)
           | (apply Ev.shr; (iterate 2 exact rfl); first | decide | omega)
           | (apply Ev.shl; (iterate 2 exact rfl); first | decide | omega)
         · exact rfl)
      | (apply yn; iterate 4 exact rfl)
      | ((apply QL.split; (· exact rfl); (· exact rfl); (· exact rfl)); all_goals (intro hc; try simp only [decide_eq_true_eq, decide_eq_false_iff_not, Bool.not_eq_true', Bool.not_eq_false', Bool.not_eq_true, Bool.not_eq_false, Bool.not_true, Bool.not_false, Int.not_lt, Int.not_le, List.cons.injEq, and_true, beq_iff_eq, beq_eq_false_iff_ne] at hc; try (exfalso; first | contradiction | omega)))
      | apply QL.nil
      )
    all_goals (show DW _ _ _ _ _ _ _ _))
  all_goals (
    apply DW.loud 15
    · exact rfl
    · decide +kernel
    repeat' (
      first
      | (apply kg; iterate 2 exact rfl)
      | (apply kG; iterate 3 exact rfl)
      | apply kM
      | (
        first
        | (apply kp; iterate 2 exact rfl)
        | (apply ko; (· exact rfl); (· repeat (first | exact mH _ _ | apply mT)); iterate 2 exact rfl)
        | (apply ka; (· exact rfl); (· repeat (first | exact mH _ _ | apply mT)); iterate 2 exact rfl)
        | (apply kL; (iterate 3 exact rfl); (· repeat (first | exact BS.nil _ | (apply BS.int; exact rfl) | (apply BS.ptr; exact rfl) | (apply BS.slice; exact rfl) | (apply BS.agg; iterate 2 exact rfl))); intro _)
        | (apply kT; (iterate 2 exact rfl); (· repeat (first | exact sH _ _ _ | apply sT)); iterate 2 exact rfl)
        | (apply kS; (iterate 2 exact rfl); (· repeat (first | exact sH _ _ _ | apply sT)); exact rfl)
        | (apply kB; (iterate 2 exact rfl); intro _)
        | (apply kA; exact rfl; intro _)
        )
      | (apply LR.call; (· exact rfl); (intro w1 h1; refine (c51 5 w1 (by decide)).mono ?_; rintro v w2 ⟨at_, ct, rfl, hn1⟩; refine LR.back (h1.newSl hn1) ?_; clear hn1 h1; apply kM))
      | (apply kq; (· exact rfl); (· intro w1 h1; have hq := CallsTo.q (c20 x.m (textN 5) x.a at_ x.c ct w1 (h1.rd_of_own (by (repeat (first | exact mH _ _ | apply mT)))) (h1.rd_of_own (by (repeat (first | exact mH _ _ | apply mT)))) hxl) h1; rw [show sameB x.m (textN 5) = true by rw [mx]; exact sameB_self _] at hq; show CallsTo Try.prog 20 [x.m.val x.a x.c, (textN 5).val at_ ct] w1 _; exact hq))
      | (apply kq; (· exact rfl); (· intro w1 h1; exact CallsTo.q (c48 b _ 31 s4 w1 (rdQ4 w1 (h1.holds _ (by (repeat (first | exact mH _ _ | apply mT))))) (by omega)) h1))
      | (apply LR.call; (· exact rfl); (intro w1 h1; have hh := c41 b ((0 + 1) % 32) s4 L4 (some ⟨_, 0, none⟩) 1 [zeroA] w1 (h1.holds _ (by (repeat (first | exact mH _ _ | apply mT)))) r4 (h1.rd_of_blk (mH _ _)) (fun k hk => h1.apart (y := qO b ((0 + 1) % 32) s4 L4) (by (repeat (first | exact mH _ _ | apply mT))) rfl k (by obtain ⟨_, ad, e, rfl⟩ := hk; cases e; rfl)) (fun y hy => by simp at hy; subst hy; exact zeroA_MR w1) (fun y hy k hk => by simp at hy; subst hy; exact absurd rfl hk.1) (by simp); rw [qputE_zero] at hh; refine CallsTo.mono hh ?_; clear hh; rintro v w2 ⟨s5, L5, rfl, r5, m5, st⟩; have h2 := h1.one' st rfl (qO_dep _ _ _ _) (by (repeat (first | exact sH _ _ _ | apply sT))); refine LR.back h2 ?_; clear h2 h1 st; apply kM))
      )
    all_goals (refine At.stage_same (fun _ h => St.sub h (by repeat (first | exact List.Sublist.refl _ | apply List.Sublist.cons_cons | apply List.Sublist.cons))) ?_))
  all_goals (
    apply DW.loud 16
    · exact rfl
    · decide +kernel
    repeat' (
      first
      | (apply kg; iterate 2 exact rfl)
      | (apply kG; iterate 3 exact rfl)
      | apply kM
      | (
        first
        | (apply kp; iterate 2 exact rfl)
        | (apply ko; (· exact rfl); (· repeat (first | exact mH _ _ | apply mT)); iterate 2 exact rfl)
        | (apply ka; (· exact rfl); (· repeat (first | exact mH _ _ | apply mT)); iterate 2 exact rfl)
        | (apply kL; (iterate 3 exact rfl); (· repeat (first | exact BS.nil _ | (apply BS.int; exact rfl) | (apply BS.ptr; exact rfl) | (apply BS.slice; exact rfl) | (apply BS.agg; iterate 2 exact rfl))); intro _)
        | (apply kT; (iterate 2 exact rfl); (· repeat (first | exact sH _ _ _ | apply sT)); iterate 2 exact rfl)
        | (apply kS; (iterate 2 exact rfl); (· repeat (first | exact sH _ _ _ | apply sT)); exact rfl)
        | (apply kB; (iterate 2 exact rfl); intro _)
        | (apply kA; exact rfl; intro _)
        )
      | (apply LR.call; (· exact rfl); (intro w1 h1; refine (c51 5 w1 (by decide)).mono ?_; rintro v w2 ⟨at_, ct, rfl, hn1⟩; refine LR.back (h1.newSl hn1) ?_; clear hn1 h1; apply kM))
      | (apply kq; (· exact rfl); (· intro w1 h1; have hq := CallsTo.q (c20 x.m (textN 5) x.a at_ x.c ct w1 (h1.rd_of_own (by (repeat (first | exact mH _ _ | apply mT)))) (h1.rd_of_own (by (repeat (first | exact mH _ _ | apply mT)))) hxl) h1; rw [show sameB x.m (textN 5) = true by rw [mx]; exact sameB_self _] at hq; show CallsTo Try.prog 20 [x.m.val x.a x.c, (textN 5).val at_ ct] w1 _; exact hq))
      | (apply kq; (· exact rfl); (· intro w1 h1; exact CallsTo.q (c48 b _ 31 s4 w1 (rdQ4 w1 (h1.holds _ (by (repeat (first | exact mH _ _ | apply mT))))) (by omega)) h1))
      | (apply LR.call; (· exact rfl); (intro w1 h1; have hh := c41 b ((0 + 1) % 32) s4 L4 (some ⟨_, 0, none⟩) 1 [zeroA] w1 (h1.holds _ (by (repeat (first | exact mH _ _ | apply mT)))) r4 (h1.rd_of_blk (mH _ _)) (fun k hk => h1.apart (y := qO b ((0 + 1) % 32) s4 L4) (by (repeat (first | exact mH _ _ | apply mT))) rfl k (by obtain ⟨_, ad, e, rfl⟩ := hk; cases e; rfl)) (fun y hy => by simp at hy; subst hy; exact zeroA_MR w1) (fun y hy k hk => by simp at hy; subst hy; exact absurd rfl hk.1) (by simp); rw [qputE_zero] at hh; refine CallsTo.mono hh ?_; clear hh; rintro v w2 ⟨s5, L5, rfl, r5, m5, st⟩; have h2 := h1.one' st rfl (qO_dep _ _ _ _) (by (repeat (first | exact sH _ _ _ | apply sT))); refine LR.back h2 ?_; clear h2 h1 st; apply kM))
      )
    all_goals (refine At.stage_same (fun _ h => St.sub h (by repeat (first | exact List.Sublist.refl _ | apply List.Sublist.cons_cons | apply List.Sublist.cons))) ?_))
  all_goals (
    apply DW.quiet [17, 18, 19]
    · decide +kernel
    · first | exact fun _ h => h | exact fun _ h => St.sub h (by repeat (first | exact List.Sublist.refl _ | apply List.Sublist.cons_cons | apply List.Sublist.cons))
    repeat' (
      first
      | (apply yp; iterate 3 exact rfl)
      | (apply QL.ev; exact rfl
         · first
           | (apply Ev.load_own; (· exact rfl); (· repeat (first | exact mH _ _ | apply mT)); exact rfl)
           | (apply Ev.load_agg; (· exact rfl); (· repeat (first | exact mH _ _ | apply mT)); exact rfl)
           | (apply Ev.load_rdq; (· exact rfl); (· repeat (first | exact mH _ _ | apply mT)); iterate 2 exact rfl)
           | (apply Ev.load_ardq; (· exact rfl); (· repeat (first | exact mH _ _ | apply mT)); exact rfl)
           | (apply Ev.fieldAddr; exact rfl)
           | (apply Ev.len; exact rfl)
           | (apply EqOf.eq; exact rfl)
           | (apply EqOf.ne; exact rfl)
           | (apply Ev.conv; exact rfl)
           | (apply Ev.buildN; exact rfl)
           | (apply Ev.shr; (iterate 2 exact rfl); first | decide | omega)
           | (apply Ev.shl; (iterate 2 exact rfl); first | decide | omega)
         · exact rfl)
      | (apply yq; iterate 5 exact rfl)
      | (apply QL.evg; iterate 3 exact rfl
         · first
           | (apply Ev.load_own; (· exact rfl); (· repeat (first | exact mH _ _ | apply mT)); exact rfl)
           | (apply Ev.load_agg; (· exact rfl); (· repeat (first | exact mH _ _ | apply mT)); exact rfl)
           | (apply Ev.load_rdq; (· exact rfl); (· repeat (first | exact mH _ _ | apply mT)); iterate 2 exact rfl)
           | (apply Ev.load_ardq; (· exact rfl); (· repeat (first | exact mH _ _ | apply mT)); exact rfl)
           | (apply Ev.fieldAddr; exact rfl)
           | (apply Ev.len; exact rfl)
           | (apply EqOf.eq; exact rfl)
           | (apply EqOf.ne; exact rfl)
           | (apply Ev.conv; exact rfl)
           | (apply Ev.buildN; exact rfl)
           | (apply Ev.shr; (iterate 2 exact rfl); first | decide | omega)
           | (apply Ev.shl; (iterate 2 exact rfl); first | decide | omega)
         · exact rfl)
      | (apply yn; iterate 4 exact rfl)
      | ((apply QL.split; (· exact rfl); (· exact rfl); (· exact rfl)); all_goals (intro hc; try simp only [decide_eq_true_eq, decide_eq_false_iff_not, Bool.not_eq_true', Bool.not_eq_false', Bool.not_eq_true, Bool.not_eq_false, Bool.not_true, Bool.not_false, Int.not_lt, Int.not_le, List.cons.injEq, and_true, beq_iff_eq, beq_eq_false_iff_ne] at hc; try (exfalso; first | contradiction | omega)))
      | apply QL.nil
      )
    all_goals (show DW _ _ _ _ _ _ _ _))
  all_goals (first | (apply DW.done_thn; (· decide +kernel)) | (apply DW.done; (· decide +kernel)))
  repeat' (
    first
    | (
      first
      | (apply kp; iterate 2 exact rfl)
      | apply ja | apply jb | apply jg | apply jj | (apply je; exact rfl) | (apply jf; exact rfl) | apply jd | apply jh | apply ji | (apply jc; kernel_rfl) | apply jk | apply jl | apply jm | apply jn | apply jo | (apply jp; exact rfl) | apply jq | apply jr | apply js | apply jt | apply ju | apply jv | apply jw | apply kN | apply kM
      | (apply kf; iterate 2 exact rfl)
      | (apply ko; (· exact rfl); (· repeat (first | exact mH _ _ | apply mT)); iterate 2 exact rfl)
      | (apply ka; (· exact rfl); (· repeat (first | exact mH _ _ | apply mT)); iterate 2 exact rfl)
      | (apply kr; (· exact rfl); (· repeat (first | exact mH _ _ | apply mT)); iterate 3 exact rfl)
      | (apply ks; (· exact rfl); (· repeat (first | exact mH _ _ | apply mT)); iterate 2 exact rfl)
      | (apply kn; iterate 2 exact rfl)
      | (apply ke; iterate 2 exact rfl)
      | (apply kx; iterate 2 exact rfl)
      | (apply kc; iterate 2 exact rfl)
      | (apply kb; iterate 2 exact rfl)
      | (apply kg; iterate 2 exact rfl)
      | (apply kG; iterate 3 exact rfl)
      | (apply kB; (iterate 2 exact rfl); intro _)
      | (apply kA; exact rfl; intro _)
      | (apply kL; (iterate 3 exact rfl); (· repeat (first | exact BS.nil _ | (apply BS.int; exact rfl) | (apply BS.ptr; exact rfl) | (apply BS.slice; exact rfl) | (apply BS.agg; iterate 2 exact rfl))); intro _)
      | (apply kT; (iterate 2 exact rfl); (· repeat (first | exact sH _ _ _ | apply sT)); iterate 2 exact rfl)
      | (apply kS; (iterate 2 exact rfl); (· repeat (first | exact sH _ _ _ | apply sT)); exact rfl)
      | (apply kh; (iterate 2 exact rfl); (first | decide | omega); exact rfl)
      | (apply kl; (iterate 2 exact rfl); (first | decide | omega); exact rfl)
      )
    | ((first | (apply kR; (· exact rfl); (· exact rfl)) | (apply kQ; (· exact rfl))); all_goals (intro hc; try simp only [decide_eq_true_eq, decide_eq_false_iff_not, Bool.not_eq_true', Bool.not_eq_false', Bool.not_eq_true, Bool.not_eq_false, Bool.not_true, Bool.not_false, Int.not_lt, Int.not_le, List.cons.injEq, and_true, beq_iff_eq, beq_eq_false_iff_ne] at hc; try (exfalso; first | contradiction | omega)))
    )
  (apply ret1; (· exact rfl); intro w' hS)
  exact ⟨rfl, hS.toKeep⟩
end Go.Proofs.Ytomlgnncncjmaaa
