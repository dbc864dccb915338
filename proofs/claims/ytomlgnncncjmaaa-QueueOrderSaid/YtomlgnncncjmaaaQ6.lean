/-
  Copies of messages; deeds as arguments.
-/
import Derived.Test.YtomlgnncncjmaaaQ3
import Derived.Test.YtomlgnncncjmaaaHb16
-- all by hand
namespace Go.Proofs.Ytomlgnncncjmaaa
open Go.Hb Go.ChangeShapes Go.WideShapes
attribute [local irreducible] LR CW At Ev thn blk finK noG again CallsTo DW QL dnext TW DP
set_option linter.unusedSimpArgs false
set_option linter.unusedVariables false
set_option maxRecDepth 100000

structure DeedA where
  a : Option Addr
  c : Nat
  ms : List MsgA
  take : Int
def DeedA.row (x : DeedA) : List Value := [.slice x.a x.ms.length x.c, .int .i64 x.take]
theorem DeedA.row_len (x : DeedA) : x.row.length = 2 := rfl
structure DR (w : World) (x : DeedA) : Prop where
  hr : Rd w x.a (x.ms.flatMap MsgA.row)
  hR : ∀ y ∈ x.ms, MR w y
  hz : x.a = none → x.c = 0
  hm : x.ms.length * 120 ≤ 140737488351232
theorem opn_msgs2 : Opn Try.prog 69 (fun w cs => ∃ (a : Option Addr) (c : Nat) (l : List MsgA), cs = [.slice a l.length c] ∧ Rd w a (l.flatMap MsgA.row) ∧ (∀ x ∈ l, MR w x) ∧ (a = none → c = 0) ∧ l.length ≤ c ∧ l.length * 120 ≤ 140737488351232) := by
  refine (opn_slice Try.underlying69 (sz := 13) (by_ := 120) (by kernel_rfl) (by omega) (by kernel_rfl) opn_msg).mono ?_
  rintro w cs ⟨a, len, cap, css, rfl, rfl, hg, hr, hz, hc, hm⟩
  obtain ⟨l, h1, h2, h3⟩ := Go.Hb.rows_of (f := MsgA.row) (R := fun x => MR w x) css fun c hc => by
    obtain ⟨m, a, c', e, h1, h2, h3, h4, _⟩ := (hg c hc).1
    exact ⟨⟨m, a, c'⟩, e, h1, h3, by show m.body.length ≤ _; omega, h2⟩
  rw [h1] at hr
  have hm : css.length * 120 ≤ 140737488351232 := hm
  exact ⟨a, cap, l, by rw [h2], hr, h3, hz, by omega, by omega⟩
theorem opn_deed : Opn Try.prog 72 (fun w cs => ∃ x : DeedA, cs = x.row ∧ DR w x) := by
  refine (opn_struct Try.underlying72).mono fun w cs ⟨hl, h⟩ => ?_
  have hl : cs.length = 2 := hl
  match cs, hl with
  | [y0, y1], _ =>
    obtain ⟨a, c, l, h0, hr, hR, hz, hc, hm⟩ := h 0 _ rfl _ opn_msgs2
    obtain ⟨x1, h1, g1⟩ := h 1 _ rfl _ opn_i64
    have h0 : [y0] = [.slice a l.length c] := h0
    have h1 : [y1] = [Value.int .i64 x1] := h1
    simp only [List.cons.injEq, and_true] at h0 h1
    exact ⟨⟨a, c, l, x1⟩, by rw [h0, h1]; rfl, hr, hR, hz, hm⟩
theorem opn_deeds : Opn Try.prog 64 (fun w cs => ∃ (a : Option Addr) (c : Nat) (l : List DeedA), cs = [.slice a l.length c] ∧ Rd w a (l.flatMap DeedA.row) ∧ (∀ x ∈ l, DR w x) ∧ (a = none → c = 0) ∧ l.length ≤ c ∧ l.length ≤ 140737488351232) := by
  refine (opn_slice Try.underlying64 (sz := 2) (by_ := 32) (by kernel_rfl) (by omega) (by kernel_rfl) opn_deed).mono ?_
  rintro w cs ⟨a, len, cap, css, rfl, rfl, hg, hr, hz, hc, hm⟩
  obtain ⟨l, h1, h2, h3⟩ := rows_of css fun c hc => (hg c hc).1
  rw [h1] at hr
  have hm : css.length * 32 ≤ 140737488351232 := hm
  exact ⟨a, cap, l, by rw [h2], hr, h3, hz, by omega, by omega⟩

set_option maxHeartbeats 1000000 in
theorem c40 (al : Option Addr) (cl : Nat) (l : List MsgA) (w : World) (hr : Rd w al (l.flatMap MsgA.row)) (hR : ∀ x ∈ l, MR w x) (hm : l.length * 120 ≤ 140737488351232) :
    CallsTo Try.prog 40 [.slice al l.length cl] w fun v w' => ∃ a c l', v = .slice a l'.length c ∧ l'.map MsgA.m = l.map MsgA.m ∧ St w NoF [mS a c l', bunB l'] w' := by
  refine go_in (n := 20) (St.rd1 hr) Try.func40 rfl rfl ?_
  repeat' (
    first
    | (
      first
      | (apply kp; iterate 2 exact rfl)
      | apply ja | apply jb | apply jg | apply jj | (apply je; exact rfl) | (apply jf; exact rfl) | apply jd | apply jh | apply ji | (apply jc; kernel_rfl) | apply jk | apply jl | apply jm | apply jn | apply jo | (apply jp; exact rfl) | apply jq | apply jr | apply js | apply jt | apply ju | apply jv | apply jw | apply kN | apply kM
      | (apply kf; iterate 2 exact rfl)
      | (apply ko; (· exact rfl); (· repeat (first | exact mH _ _ | apply mT)); iterate 2 exact rfl)
      | (apply ka; (· exact rfl); (· repeat (first | exact mH _ _ | apply mT)); iterate 2 exact rfl)
      | (apply kr; (· exact rfl); (· repeat (first | exact mH _ _ | apply mT)); iterate 3 exact rfl)
      | (apply ks; (· exact rfl); (· repeat (first | exact mH _ _ | apply mT)); iterate 2 exact rfl)
      | (apply kn; iterate 2 exact rfl)
      | (apply ke; iterate 2 exact rfl)
      | (apply kx; iterate 2 exact rfl)
      | (apply kc; iterate 2 exact rfl)
      | (apply kb; iterate 2 exact rfl)
      | (apply kg; iterate 2 exact rfl)
      | (apply kG; iterate 3 exact rfl)
      | (apply kB; (iterate 2 exact rfl); intro _)
      | (apply kA; exact rfl; intro _)
      | (apply kL; (iterate 3 exact rfl); (· repeat (first | exact BS.nil _ | (apply BS.int; exact rfl) | (apply BS.ptr; exact rfl) | (apply BS.slice; exact rfl) | (apply BS.agg; iterate 2 exact rfl))); intro _)
      | (apply kT; (iterate 2 exact rfl); (· repeat (first | exact sH _ _ _ | apply sT)); iterate 2 exact rfl)
      | (apply kS; (iterate 2 exact rfl); (· repeat (first | exact sH _ _ _ | apply sT)); exact rfl)
      | (apply kh; (iterate 2 exact rfl); (first | decide | omega); exact rfl)
      | (apply kl; (iterate 2 exact rfl); (first | decide | omega); exact rfl)
      )
    | ((first | (apply kR; (· exact rfl); (· exact rfl)) | (apply kQ; (· exact rfl))); all_goals (intro hc; try simp only [decide_eq_true_eq, decide_eq_false_iff_not, Bool.not_eq_true', Bool.not_eq_false', Bool.not_eq_true, Bool.not_eq_false, Bool.not_true, Bool.not_false, Int.not_lt, Int.not_le, List.cons.injEq, and_true, beq_iff_eq, beq_eq_false_iff_ne] at hc; try (exfalso; first | contradiction | omega)))
    )
  apply CW.loop [3, 4, 5, 6, 7, 8, 9, 10, 11, 12, 13, 14, 15, 16, 17, 18] (fun s : Nat × Option Addr × Nat × List MsgA => s.1 ≤ l.length ∧ s.2.2.2.map MsgA.m = (l.take s.1).map MsgA.m) (fun s => [(4, Value.int .i64 (s.1 : Int)), (3, .slice s.2.1 s.2.2.2.length s.2.2.1)])
    (fun s => St w NoF [mS s.2.1 s.2.2.1 s.2.2.2, bunB s.2.2.2, rdA al (l.flatMap MsgA.row)]) (fun s => l.length - s.1)
  · exact fun w' hw' => ⟨(0, none, 0, []), ⟨by simp, by simp⟩, ⟨rfl, rfl, trivial⟩, (hw'.bun_nil MsgA.dep).nilsl 28 13⟩
  rintro ⟨i, a, c, l'⟩ g ⟨hi, hl⟩
  simp only at hi hl ⊢
  have hlen : l'.length = i := by have := congrArg List.length hl; simp at this; omega
  by_cases hlt : i < l.length
  · obtain ⟨ba, oa, rfl⟩ := hr.form (rows_ne MsgA.row_len (by omega) hlt)
    have hx := hR _ (List.getElem_mem hlt)
    repeat' (
      first
      | (
        first
        | (apply kp; iterate 2 exact rfl)
        | apply ja | apply jb | apply jg | apply jj | (apply je; exact rfl) | (apply jf; exact rfl) | apply jd | apply jh | apply ji | (apply jc; kernel_rfl) | apply jk | apply jl | apply jm | apply jn | apply jo | (apply jp; exact rfl) | apply jq | apply jr | apply js | apply jt | apply ju | apply jv | apply jw | apply kN | apply kM
        | (apply kf; iterate 2 exact rfl)
        | (apply ko; (· exact rfl); (· repeat (first | exact mH _ _ | apply mT)); iterate 2 exact rfl)
        | (apply ka; (· exact rfl); (· repeat (first | exact mH _ _ | apply mT)); iterate 2 exact rfl)
        | (apply kr; (· exact rfl); (· repeat (first | exact mH _ _ | apply mT)); iterate 3 exact rfl)
        | (apply ks; (· exact rfl); (· repeat (first | exact mH _ _ | apply mT)); iterate 2 exact rfl)
        | (apply kn; iterate 2 exact rfl)
        | (apply ke; iterate 2 exact rfl)
        | (apply kx; iterate 2 exact rfl)
        | (apply kc; iterate 2 exact rfl)
        | (apply kb; iterate 2 exact rfl)
        | (apply kg; iterate 2 exact rfl)
        | (apply kG; iterate 3 exact rfl)
        | (apply kB; (iterate 2 exact rfl); intro _)
        | (apply kA; exact rfl; intro _)
        | (apply kL; (iterate 3 exact rfl); (· repeat (first | exact BS.nil _ | (apply BS.int; exact rfl) | (apply BS.ptr; exact rfl) | (apply BS.slice; exact rfl) | (apply BS.agg; iterate 2 exact rfl))); intro _)
        | (apply kT; (iterate 2 exact rfl); (· repeat (first | exact sH _ _ _ | apply sT)); iterate 2 exact rfl)
        | (apply kS; (iterate 2 exact rfl); (· repeat (first | exact sH _ _ _ | apply sT)); exact rfl)
        | (apply kh; (iterate 2 exact rfl); (first | decide | omega); exact rfl)
        | (apply kl; (iterate 2 exact rfl); (first | decide | omega); exact rfl)
        )
      | (apply LR.ev; (· apply Ev.indexAddr; (· exact rfl); (· exact rfl); (· first | omega | (dsimp only; omega)); (· first | omega | (dsimp only; omega))); (· exact rfl))
      | (apply LR.ev; (· apply Ev.load_agg_at (cs := l[i].row); (· exact rfl); (· exact rfl); (· intro w' hw'; exact rd_row MsgA.row_len (hw'.rd_of (by (repeat (first | exact mH _ _ | apply mT)))) hlt (by simp))); (· exact rfl))
      | ((first | (apply kR; (· exact rfl); (· exact rfl)) | (apply kQ; (· exact rfl))); all_goals (intro hc; try simp only [decide_eq_true_eq, decide_eq_false_iff_not, Bool.not_eq_true', Bool.not_eq_false', Bool.not_eq_true, Bool.not_eq_false, Bool.not_true, Bool.not_false, Int.not_lt, Int.not_le, List.cons.injEq, and_true, beq_iff_eq, beq_eq_false_iff_ne] at hc; try (exfalso; first | contradiction | omega)))
      )
    apply LR.call
    · exact rfl
    intro w1 h1
    have hh := c14 l[i].m l[i].a l[i].c w1 (h1.oldRd hx.hr) hx.hz hx.hm
    refine CallsTo.mono hh ?_
    clear hh
    rintro v w2 ⟨a1, c1, rfl, hn1⟩
    refine LR.back (h1.newSl hn1) ?_
    clear hn1 h1
    repeat' (
      first
      | (
        first
        | (apply kp; iterate 2 exact rfl)
        | apply ja | apply jb | apply jg | apply jj | (apply je; exact rfl) | (apply jf; exact rfl) | apply jd | apply jh | apply ji | (apply jc; kernel_rfl) | apply jk | apply jl | apply jm | apply jn | apply jo | (apply jp; exact rfl) | apply jq | apply jr | apply js | apply jt | apply ju | apply jv | apply jw | apply kN | apply kM
        | (apply kf; iterate 2 exact rfl)
        | (apply ko; (· exact rfl); (· repeat (first | exact mH _ _ | apply mT)); iterate 2 exact rfl)
        | (apply ka; (· exact rfl); (· repeat (first | exact mH _ _ | apply mT)); iterate 2 exact rfl)
        | (apply kr; (· exact rfl); (· repeat (first | exact mH _ _ | apply mT)); iterate 3 exact rfl)
        | (apply ks; (· exact rfl); (· repeat (first | exact mH _ _ | apply mT)); iterate 2 exact rfl)
        | (apply kn; iterate 2 exact rfl)
        | (apply ke; iterate 2 exact rfl)
        | (apply kx; iterate 2 exact rfl)
        | (apply kc; iterate 2 exact rfl)
        | (apply kb; iterate 2 exact rfl)
        | (apply kg; iterate 2 exact rfl)
        | (apply kG; iterate 3 exact rfl)
        | (apply kB; (iterate 2 exact rfl); intro _)
        | (apply kA; exact rfl; intro _)
        | (apply kL; (iterate 3 exact rfl); (· repeat (first | exact BS.nil _ | (apply BS.int; exact rfl) | (apply BS.ptr; exact rfl) | (apply BS.slice; exact rfl) | (apply BS.agg; iterate 2 exact rfl))); intro _)
        | (apply kT; (iterate 2 exact rfl); (· repeat (first | exact sH _ _ _ | apply sT)); iterate 2 exact rfl)
        | (apply kS; (iterate 2 exact rfl); (· repeat (first | exact sH _ _ _ | apply sT)); exact rfl)
        | (apply kh; (iterate 2 exact rfl); (first | decide | omega); exact rfl)
        | (apply kl; (iterate 2 exact rfl); (first | decide | omega); exact rfl)
        )
      | ((first | (apply kR; (· exact rfl); (· exact rfl)) | (apply kQ; (· exact rfl))); all_goals (intro hc; try simp only [decide_eq_true_eq, decide_eq_false_iff_not, Bool.not_eq_true', Bool.not_eq_false', Bool.not_eq_true, Bool.not_eq_false, Bool.not_true, Bool.not_false, Int.not_lt, Int.not_le, List.cons.injEq, and_true, beq_iff_eq, beq_eq_false_iff_ne] at hc; try (exfalso; first | contradiction | omega)))
      )
    refine LR.append (xs := l'.flatMap MsgA.row) (news := MsgA.row ⟨l[i].m, a1, c1⟩) (m := 1) rfl rfl (fun a' c' => sT _ (sT _ (sH _ _ _))) (fun w' hw' => hw'.rd_of_blk (mH _ _)) (fun hx => by cases hx) rfl (by simp [MsgA.row, Msg.cells, Value.oneCell']) (by omega) (by unfold maxLen; omega) rfl ?_
    intro ay cy
    repeat' (
      first
      | (
        first
        | (apply kp; iterate 2 exact rfl)
        | apply ja | apply jb | apply jg | apply jj | (apply je; exact rfl) | (apply jf; exact rfl) | apply jd | apply jh | apply ji | (apply jc; kernel_rfl) | apply jk | apply jl | apply jm | apply jn | apply jo | (apply jp; exact rfl) | apply jq | apply jr | apply js | apply jt | apply ju | apply jv | apply jw | apply kN | apply kM
        | (apply kf; iterate 2 exact rfl)
        | (apply ko; (· exact rfl); (· repeat (first | exact mH _ _ | apply mT)); iterate 2 exact rfl)
        | (apply ka; (· exact rfl); (· repeat (first | exact mH _ _ | apply mT)); iterate 2 exact rfl)
        | (apply kr; (· exact rfl); (· repeat (first | exact mH _ _ | apply mT)); iterate 3 exact rfl)
        | (apply ks; (· exact rfl); (· repeat (first | exact mH _ _ | apply mT)); iterate 2 exact rfl)
        | (apply kn; iterate 2 exact rfl)
        | (apply ke; iterate 2 exact rfl)
        | (apply kx; iterate 2 exact rfl)
        | (apply kc; iterate 2 exact rfl)
        | (apply kb; iterate 2 exact rfl)
        | (apply kg; iterate 2 exact rfl)
        | (apply kG; iterate 3 exact rfl)
        | (apply kB; (iterate 2 exact rfl); intro _)
        | (apply kA; exact rfl; intro _)
        | (apply kL; (iterate 3 exact rfl); (· repeat (first | exact BS.nil _ | (apply BS.int; exact rfl) | (apply BS.ptr; exact rfl) | (apply BS.slice; exact rfl) | (apply BS.agg; iterate 2 exact rfl))); intro _)
        | (apply kT; (iterate 2 exact rfl); (· repeat (first | exact sH _ _ _ | apply sT)); iterate 2 exact rfl)
        | (apply kS; (iterate 2 exact rfl); (· repeat (first | exact sH _ _ _ | apply sT)); exact rfl)
        | (apply kh; (iterate 2 exact rfl); (first | decide | omega); exact rfl)
        | (apply kl; (iterate 2 exact rfl); (first | decide | omega); exact rfl)
        )
      | (apply LR.ev; (· apply Ev.add; (· exact rfl); (· exact rfl); (· first | omega | (dsimp only; omega)); (· first | omega | (dsimp only; omega))); (· exact rfl))
      | ((first | (apply kR; (· exact rfl); (· exact rfl)) | (apply kQ; (· exact rfl))); all_goals (intro hc; try simp only [decide_eq_true_eq, decide_eq_false_iff_not, Bool.not_eq_true', Bool.not_eq_false', Bool.not_eq_true, Bool.not_eq_false, Bool.not_true, Bool.not_false, Int.not_lt, Int.not_le, List.cons.injEq, and_true, beq_iff_eq, beq_eq_false_iff_ne] at hc; try (exfalso; first | contradiction | omega)))
      )
    apply At.again (i + 1, ay, cy, l' ++ [⟨l[i].m, a1, c1⟩])
    · refine ⟨by show i + 1 ≤ _; omega, ?_⟩
      show (l' ++ [MsgA.mk l[i].m a1 c1]).map MsgA.m = (l.take (i + 1)).map MsgA.m
      rw [List.take_succ_eq_append_getElem hlt, List.map_append, List.map_append, hl]
      rfl
    · (repeat (first | exact Out.refl _ _ | exact Out.mix | (apply Out.upd; (· exact rfl)) | (apply Out.updL; (· exact rfl)) | (apply Out.mixs; (· exact rfl))))
    · exact ⟨rfl, by show Value.slice ay (l'.length + 1) cy = .slice ay (l' ++ [MsgA.mk l[i].m a1 c1]).length cy; simp, trivial⟩
    · intro w' hw'
      have h2 := St.bun_snoc (f := MsgA.body) (x := ⟨l[i].m, a1, c1⟩) (l := l') MsgA.dep MsgA.ex (front (front hw' 3 rfl rfl) 2 rfl rfl)
      rw [mS_snoc] at h2
      exact (front h2 2 rfl rfl).sub (by repeat (first | exact List.Sublist.refl _ | apply List.Sublist.cons_cons | apply List.Sublist.cons))
    · show l.length - (i + 1) < l.length - i
      omega
  · repeat' (
      first
      | (
        first
        | (apply kp; iterate 2 exact rfl)
        | apply ja | apply jb | apply jg | apply jj | (apply je; exact rfl) | (apply jf; exact rfl) | apply jd | apply jh | apply ji | (apply jc; kernel_rfl) | apply jk | apply jl | apply jm | apply jn | apply jo | (apply jp; exact rfl) | apply jq | apply jr | apply js | apply jt | apply ju | apply jv | apply jw | apply kN | apply kM
        | (apply kf; iterate 2 exact rfl)
        | (apply ko; (· exact rfl); (· repeat (first | exact mH _ _ | apply mT)); iterate 2 exact rfl)
        | (apply ka; (· exact rfl); (· repeat (first | exact mH _ _ | apply mT)); iterate 2 exact rfl)
        | (apply kr; (· exact rfl); (· repeat (first | exact mH _ _ | apply mT)); iterate 3 exact rfl)
        | (apply ks; (· exact rfl); (· repeat (first | exact mH _ _ | apply mT)); iterate 2 exact rfl)
        | (apply kn; iterate 2 exact rfl)
        | (apply ke; iterate 2 exact rfl)
        | (apply kx; iterate 2 exact rfl)
        | (apply kc; iterate 2 exact rfl)
        | (apply kb; iterate 2 exact rfl)
        | (apply kg; iterate 2 exact rfl)
        | (apply kG; iterate 3 exact rfl)
        | (apply kB; (iterate 2 exact rfl); intro _)
        | (apply kA; exact rfl; intro _)
        | (apply kL; (iterate 3 exact rfl); (· repeat (first | exact BS.nil _ | (apply BS.int; exact rfl) | (apply BS.ptr; exact rfl) | (apply BS.slice; exact rfl) | (apply BS.agg; iterate 2 exact rfl))); intro _)
        | (apply kT; (iterate 2 exact rfl); (· repeat (first | exact sH _ _ _ | apply sT)); iterate 2 exact rfl)
        | (apply kS; (iterate 2 exact rfl); (· repeat (first | exact sH _ _ _ | apply sT)); exact rfl)
        | (apply kh; (iterate 2 exact rfl); (first | decide | omega); exact rfl)
        | (apply kl; (iterate 2 exact rfl); (first | decide | omega); exact rfl)
        )
      | ((first | (apply kR; (· exact rfl); (· exact rfl)) | (apply kQ; (· exact rfl))); all_goals (intro hc; try simp only [decide_eq_true_eq, decide_eq_false_iff_not, Bool.not_eq_true', Bool.not_eq_false', Bool.not_eq_true, Bool.not_eq_false, Bool.not_true, Bool.not_false, Int.not_lt, Int.not_le, List.cons.injEq, and_true, beq_iff_eq, beq_eq_false_iff_ne] at hc; try (exfalso; first | contradiction | omega)))
      )
    (apply ret1; (· exact rfl); intro w' hS)
    rw [List.take_of_length_le (by omega)] at hl
    exact ⟨a, c, l', rfl, hl, hS.sub (by repeat (first | exact List.Sublist.refl _ | exact List.nil_sublist _ | apply List.Sublist.cons_cons | apply List.Sublist.cons))⟩
def allok (l : List MsgA) : Bool := l.all fun x => decide (check x.m = 0)
theorem allok_succ {l : List MsgA} {k : Nat} (h : k < l.length) : allok (l.take (k + 1)) = (allok (l.take k) && decide (check l[k].m = 0)) := by
  unfold allok
  rw [List.take_succ_eq_append_getElem h, List.all_append, List.all_cons, List.all_nil, Bool.and_true]
theorem qputE_bad {n : Nat} {l : List MsgA} (h : allok l = false) : qputE n l = 2 := by
  unfold qputE
  rw [if_pos]
  unfold allok at h
  rw [List.any_eq_true]
  rw [List.all_eq_false] at h
  obtain ⟨x, hx, h2⟩ := h
  exact ⟨x, hx, by simpa using h2⟩
theorem allok_mem {l : List MsgA} (h : allok l = true) : ∀ x ∈ l, check x.m = 0 := fun x hx => by
  unfold allok at h
  have := List.all_eq_true.1 h x hx
  simpa using this
abbrev odB (a : Option Addr) (c : Nat) (l : List MsgA) : Asrt := odl (.slice a l.length c) 28 13 l.length (l.flatMap MsgA.row)
/-- Messages that were there at the start are put in. -/
theorem put_deed {w w1 : World} {R : List Asrt} {b first : Nat} {slots L : List MsgA} {x : DeedA} (h1 : St w NoF R w1) (hqm : qO b first slots L ∈ R) (hq : QRep first slots L) (hx : DR w x) :
    CallsTo Try.prog 41 [.pointer (some ⟨b, 0, none⟩), .slice x.a x.ms.length x.c] w1 fun v w' => ∃ slots' L', v = .int .i64 (qputE L.length x.ms) ∧ QRep first slots' L' ∧ L'.map MsgA.m = L.map MsgA.m ++ (if qputE L.length x.ms = 0 then x.ms.map MsgA.m else []) ∧ Step (qO b first slots L) (qO b first slots' L') w1 w' :=
  c41 b first slots L x.a x.c x.ms w1 (h1.holds _ hqm) hq (h1.oldRd hx.hr) (h1.oldApart hqm rfl hx.hr) (fun y hy => (hx.hR y hy).old h1) (fun y hy => h1.oldApart hqm rfl (hx.hR y hy).hr) (by have := hx.hm; omega)
end Go.Proofs.Ytomlgnncncjmaaa
