/-
  Put in together or one by one: the law.
-/
import Derived.Test.YtomlgnncncjmaaaQ3
-- all by hand
namespace Go.Proofs.Ytomlgnncncjmaaa
open Go.Hb Go.ChangeShapes Go.WideShapes
attribute [local irreducible] LR CW At Ev thn blk finK noG again CallsTo DW QL dnext TW DP
set_option linter.unusedSimpArgs false
set_option linter.unusedVariables false
set_option maxRecDepth 100000

theorem MR.old {w w1 : World} {L : List Asrt} {x : MsgA} (h : MR w x) (h1 : St w NoF L w1) : MR w1 x := ⟨h1.oldRd h.hr, h.hz, h.hm, h.hb⟩
/-- Messages of a list that was there at the start are put in. -/
theorem put_old {w w1 : World} {R : List Asrt} {b first : Nat} {slots L : List MsgA} {al : Option Addr} {cl : Nat} {l : List MsgA} {z : Asrt} (h1 : St w NoF (z :: R) w1) (hqm : qO b first slots L ∈ R) (hq : QRep first slots L) (hze : z.excl = true)
    (hzr : Rd w1 al (l.flatMap MsgA.row)) (hzf : ∀ k, rdFoot al (l.flatMap MsgA.row) k → z.foot k) (hR : ∀ x ∈ l, MR w x) (hm : l.length ≤ 140737488355328) :
    CallsTo Try.prog 41 [.pointer (some ⟨b, 0, none⟩), .slice al l.length cl] w1 fun v w' => ∃ slots' L', v = .int .i64 (qputE L.length l) ∧ QRep first slots' L' ∧ L'.map MsgA.m = L.map MsgA.m ++ (if qputE L.length l = 0 then l.map MsgA.m else []) ∧ Step (qO b first slots L) (qO b first slots' L') w1 w' :=
  c41 b first slots L al cl l w1 (h1.holds _ (mT _ hqm)) hq hzr (fun k hk => h1.apart hqm (by simp [hze]) k (hzf k hk)) (fun x hx => (hR x hx).old h1) (fun x hx => h1.oldApart (mT _ hqm) rfl (hR x hx).hr) hm

set_option maxHeartbeats 8000000 in
theorem c12 (al : Option Addr) (cl : Nat) (l : List MsgA) (w : World) (hr : Rd w al (l.flatMap MsgA.row)) (hR : ∀ x ∈ l, MR w x) (hm : l.length ≤ 140737488351232) :
    CallsTo Try.prog 12 [.slice al l.length cl] w fun v w' => v = .bool true ∧ Grew w w' := by
  refine go_in (n := 110) (St.rd1 hr) Try.func12 rfl rfl ?_
  repeat' (
    first
    | (
      first
      | (apply kp; iterate 2 exact rfl)
      | apply ja | apply jb | apply jg | apply jj | (apply je; exact rfl) | (apply jf; exact rfl) | apply jd | apply jh | apply ji | (apply jc; kernel_rfl) | apply jk | apply jl | apply jm | apply jn | apply jo | (apply jp; exact rfl) | apply jq | apply jr | apply js | apply jt | apply ju | apply jv | apply jw | apply kN | apply kM
      | (apply kf; iterate 2 exact rfl)
      | (apply ko; (· exact rfl); (· repeat (first | exact mH _ _ | apply mT)); iterate 2 exact rfl)
      | (apply ka; (· exact rfl); (· repeat (first | exact mH _ _ | apply mT)); iterate 2 exact rfl)
      | (apply kr; (· exact rfl); (· repeat (first | exact mH _ _ | apply mT)); iterate 3 exact rfl)
      | (apply ks; (· exact rfl); (· repeat (first | exact mH _ _ | apply mT)); iterate 2 exact rfl)
      | (apply kn; iterate 2 exact rfl)
      | (apply ke; iterate 2 exact rfl)
      | (apply kx; iterate 2 exact rfl)
      | (apply kc; iterate 2 exact rfl)
      | (apply kb; iterate 2 exact rfl)
      | (apply kg; iterate 2 exact rfl)
      | (apply kG; iterate 3 exact rfl)
      | (apply kB; (iterate 2 exact rfl); intro _)
      | (apply kA; exact rfl; intro _)
      | (apply kL; (iterate 3 exact rfl); (· repeat (first | exact BS.nil _ | (apply BS.int; exact rfl) | (apply BS.ptr; exact rfl) | (apply BS.slice; exact rfl) | (apply BS.agg; iterate 2 exact rfl))); intro _)
      | (apply kT; (iterate 2 exact rfl); (· repeat (first | exact sH _ _ _ | apply sT)); iterate 2 exact rfl)
      | (apply kS; (iterate 2 exact rfl); (· repeat (first | exact sH _ _ _ | apply sT)); exact rfl)
      | (apply kh; (iterate 2 exact rfl); (first | decide | omega); exact rfl)
      | (apply kl; (iterate 2 exact rfl); (first | decide | omega); exact rfl)
      )
    | (apply kq; (· exact rfl); (· intro w1 h1; exact CallsTo.q (c50 w1) h1))
    | ((first | (apply kR; (· exact rfl); (· exact rfl)) | (apply kQ; (· exact rfl))); all_goals (intro hc; try simp only [decide_eq_true_eq, decide_eq_false_iff_not, Bool.not_eq_true', Bool.not_eq_false', Bool.not_eq_true, Bool.not_eq_false, Bool.not_true, Bool.not_false, Int.not_lt, Int.not_le, List.cons.injEq, and_true, beq_iff_eq, beq_eq_false_iff_ne] at hc; try (exfalso; first | contradiction | omega)))
    )
  apply CW.loop [3, 4, 14, 15, 16, 17, 18, 19, 20, 21, 22, 23, 24, 25, 26, 27, 28, 29, 30, 31, 32, 33, 34, 35, 36, 37] (fun s : Nat × Option Addr × Nat × List MsgA => s.1 ≤ l.length ∧ s.2.2.2.length ≤ 32 ∧ ∀ x ∈ s.2.2.2, x ∈ l ∧ check x.m = 0) (fun s => [(4, Value.int .i64 (s.1 : Int)), (3, .slice s.2.1 s.2.2.2.length s.2.2.1)])
    (fun s => St w NoF [mS s.2.1 s.2.2.1 s.2.2.2, rdA al (l.flatMap MsgA.row)]) (fun s => l.length - s.1)
  · exact fun w' hw' => ⟨(0, none, 0, []), ⟨by simp, by simp, by simp⟩, ⟨rfl, rfl, trivial⟩, hw'.nilsl 28 13⟩
  rintro ⟨i, am, cm, may⟩ g ⟨hi, h32, hmay⟩
  simp only at hi h32 hmay ⊢
  by_cases hlt : i < l.length ∧ may.length < 32
  · obtain ⟨hl, hml⟩ := hlt
    obtain ⟨ba, oa, rfl⟩ := hr.form (rows_ne MsgA.row_len (by omega) hl)
    have hx := hR _ (List.getElem_mem hl)
    repeat' (
      first
      | (
        first
        | (apply kp; iterate 2 exact rfl)
        | apply ja | apply jb | apply jg | apply jj | (apply je; exact rfl) | (apply jf; exact rfl) | apply jd | apply jh | apply ji | (apply jc; kernel_rfl) | apply jk | apply jl | apply jm | apply jn | apply jo | (apply jp; exact rfl) | apply jq | apply jr | apply js | apply jt | apply ju | apply jv | apply jw | apply kN | apply kM
        | (apply kf; iterate 2 exact rfl)
        | (apply ko; (· exact rfl); (· repeat (first | exact mH _ _ | apply mT)); iterate 2 exact rfl)
        | (apply ka; (· exact rfl); (· repeat (first | exact mH _ _ | apply mT)); iterate 2 exact rfl)
        | (apply kr; (· exact rfl); (· repeat (first | exact mH _ _ | apply mT)); iterate 3 exact rfl)
        | (apply ks; (· exact rfl); (· repeat (first | exact mH _ _ | apply mT)); iterate 2 exact rfl)
        | (apply kn; iterate 2 exact rfl)
        | (apply ke; iterate 2 exact rfl)
        | (apply kx; iterate 2 exact rfl)
        | (apply kc; iterate 2 exact rfl)
        | (apply kb; iterate 2 exact rfl)
        | (apply kg; iterate 2 exact rfl)
        | (apply kG; iterate 3 exact rfl)
        | (apply kB; (iterate 2 exact rfl); intro _)
        | (apply kA; exact rfl; intro _)
        | (apply kL; (iterate 3 exact rfl); (· repeat (first | exact BS.nil _ | (apply BS.int; exact rfl) | (apply BS.ptr; exact rfl) | (apply BS.slice; exact rfl) | (apply BS.agg; iterate 2 exact rfl))); intro _)
        | (apply kT; (iterate 2 exact rfl); (· repeat (first | exact sH _ _ _ | apply sT)); iterate 2 exact rfl)
        | (apply kS; (iterate 2 exact rfl); (· repeat (first | exact sH _ _ _ | apply sT)); exact rfl)
        | (apply kh; (iterate 2 exact rfl); (first | decide | omega); exact rfl)
        | (apply kl; (iterate 2 exact rfl); (first | decide | omega); exact rfl)
        )
      | (apply LR.ev; (· apply Ev.indexAddr; (· exact rfl); (· exact rfl); (· first | omega | (dsimp only; omega)); (· first | omega | (dsimp only; omega))); (· exact rfl))
      | (apply LR.ev; (· apply Ev.load_agg_at (cs := l[i].row); (· exact rfl); (· exact rfl); (· intro w' hw'; exact rd_row MsgA.row_len (hw'.rd_of (by (repeat (first | exact mH _ _ | apply mT)))) hl (by simp))); (· exact rfl))
      | (apply kq; (· exact rfl); (· intro w1 h1; have hq := CallsTo.q (d17 l[i].m l[i].a l[i].c w1 (h1.oldRd hx.hr) hx.hz hx.hm hx.hb) h1; show CallsTo Try.prog 17 [l[i].m.val l[i].a l[i].c] w1 _; exact hq))
      | (apply LR.ev; (· apply Ev.add; (· exact rfl); (· exact rfl); (· first | omega | (dsimp only; omega)); (· first | omega | (dsimp only; omega))); (· exact rfl))
      | ((first | (apply kR; (· exact rfl); (· exact rfl)) | (apply kQ; (· exact rfl))); all_goals (intro hc; try simp only [decide_eq_true_eq, decide_eq_false_iff_not, Bool.not_eq_true', Bool.not_eq_false', Bool.not_eq_true, Bool.not_eq_false, Bool.not_true, Bool.not_false, Int.not_lt, Int.not_le, List.cons.injEq, and_true, beq_iff_eq, beq_eq_false_iff_ne] at hc; try (exfalso; first | contradiction | omega)))
      )
    · refine LR.append (xs := may.flatMap MsgA.row) (news := l[i].row) (m := 1) rfl rfl (fun a' c' => sT _ (sH _ _ _)) (fun w' hw' => hw'.rd_of_blk (mH _ _)) (fun hx => by cases hx) rfl (by simp [MsgA.row, Msg.cells, Value.oneCell']) (by omega) (by unfold maxLen; omega) rfl ?_
      intro ay cy
      repeat' (
        first
        | (
          first
          | (apply kp; iterate 2 exact rfl)
          | apply ja | apply jb | apply jg | apply jj | (apply je; exact rfl) | (apply jf; exact rfl) | apply jd | apply jh | apply ji | (apply jc; kernel_rfl) | apply jk | apply jl | apply jm | apply jn | apply jo | (apply jp; exact rfl) | apply jq | apply jr | apply js | apply jt | apply ju | apply jv | apply jw | apply kN | apply kM
          | (apply kf; iterate 2 exact rfl)
          | (apply ko; (· exact rfl); (· repeat (first | exact mH _ _ | apply mT)); iterate 2 exact rfl)
          | (apply ka; (· exact rfl); (· repeat (first | exact mH _ _ | apply mT)); iterate 2 exact rfl)
          | (apply kr; (· exact rfl); (· repeat (first | exact mH _ _ | apply mT)); iterate 3 exact rfl)
          | (apply ks; (· exact rfl); (· repeat (first | exact mH _ _ | apply mT)); iterate 2 exact rfl)
          | (apply kn; iterate 2 exact rfl)
          | (apply ke; iterate 2 exact rfl)
          | (apply kx; iterate 2 exact rfl)
          | (apply kc; iterate 2 exact rfl)
          | (apply kb; iterate 2 exact rfl)
          | (apply kg; iterate 2 exact rfl)
          | (apply kG; iterate 3 exact rfl)
          | (apply kB; (iterate 2 exact rfl); intro _)
          | (apply kA; exact rfl; intro _)
          | (apply kL; (iterate 3 exact rfl); (· repeat (first | exact BS.nil _ | (apply BS.int; exact rfl) | (apply BS.ptr; exact rfl) | (apply BS.slice; exact rfl) | (apply BS.agg; iterate 2 exact rfl))); intro _)
          | (apply kT; (iterate 2 exact rfl); (· repeat (first | exact sH _ _ _ | apply sT)); iterate 2 exact rfl)
          | (apply kS; (iterate 2 exact rfl); (· repeat (first | exact sH _ _ _ | apply sT)); exact rfl)
          | (apply kh; (iterate 2 exact rfl); (first | decide | omega); exact rfl)
          | (apply kl; (iterate 2 exact rfl); (first | decide | omega); exact rfl)
          )
        | (apply LR.ev; (· apply Ev.add; (· exact rfl); (· exact rfl); (· first | omega | (dsimp only; omega)); (· first | omega | (dsimp only; omega))); (· exact rfl))
        | ((first | (apply kR; (· exact rfl); (· exact rfl)) | (apply kQ; (· exact rfl))); all_goals (intro hc; try simp only [decide_eq_true_eq, decide_eq_false_iff_not, Bool.not_eq_true', Bool.not_eq_false', Bool.not_eq_true, Bool.not_eq_false, Bool.not_true, Bool.not_false, Int.not_lt, Int.not_le, List.cons.injEq, and_true, beq_iff_eq, beq_eq_false_iff_ne] at hc; try (exfalso; first | contradiction | omega)))
        )
      apply At.again (i + 1, ay, cy, may ++ [l[i]])
      · refine ⟨by show i + 1 ≤ _; omega, by show (may ++ [l[i]]).length ≤ 32; simp; omega, fun x hx2 => ?_⟩
        rcases List.mem_append.1 hx2 with hx2 | hx2
        · exact hmay x hx2
        · have : x = l[i] := by simpa using hx2
          subst this; exact ⟨List.getElem_mem hl, hc⟩
      · (repeat (first | exact Out.refl _ _ | exact Out.mix | (apply Out.upd; (· exact rfl)) | (apply Out.updL; (· exact rfl)) | (apply Out.mixs; (· exact rfl))))
      · exact ⟨rfl, by show Value.slice ay (may.length + 1) cy = .slice ay (may ++ [l[i]]).length cy; simp, trivial⟩
      · intro w' hw'
        have h2 := front hw' 1 rfl rfl
        rw [mS_snoc] at h2
        exact h2.sub (by repeat (first | exact List.Sublist.refl _ | apply List.Sublist.cons_cons | apply List.Sublist.cons))
      · show l.length - (i + 1) < l.length - i
        omega
    · apply At.again (i + 1, am, cm, may)
      · exact ⟨by show i + 1 ≤ _; omega, h32, hmay⟩
      · (repeat (first | exact Out.refl _ _ | exact Out.mix | (apply Out.upd; (· exact rfl)) | (apply Out.updL; (· exact rfl)) | (apply Out.mixs; (· exact rfl))))
      · exact ⟨rfl, rfl, trivial⟩
      · exact fun w' hw' => hw'
      · show l.length - (i + 1) < l.length - i
        omega
  · have hRm : ∀ x ∈ may, MR w x := fun x hx => hR x (hmay x hx).1
    have hck : ∀ x ∈ may, check x.m = 0 := fun x hx => (hmay x hx).2
    repeat' (
      first
      | (
        first
        | (apply kp; iterate 2 exact rfl)
        | apply ja | apply jb | apply jg | apply jj | (apply je; exact rfl) | (apply jf; exact rfl) | apply jd | apply jh | apply ji | (apply jc; kernel_rfl) | apply jk | apply jl | apply jm | apply jn | apply jo | (apply jp; exact rfl) | apply jq | apply jr | apply js | apply jt | apply ju | apply jv | apply jw | apply kN | apply kM
        | (apply kf; iterate 2 exact rfl)
        | (apply ko; (· exact rfl); (· repeat (first | exact mH _ _ | apply mT)); iterate 2 exact rfl)
        | (apply ka; (· exact rfl); (· repeat (first | exact mH _ _ | apply mT)); iterate 2 exact rfl)
        | (apply kr; (· exact rfl); (· repeat (first | exact mH _ _ | apply mT)); iterate 3 exact rfl)
        | (apply ks; (· exact rfl); (· repeat (first | exact mH _ _ | apply mT)); iterate 2 exact rfl)
        | (apply kn; iterate 2 exact rfl)
        | (apply ke; iterate 2 exact rfl)
        | (apply kx; iterate 2 exact rfl)
        | (apply kc; iterate 2 exact rfl)
        | (apply kb; iterate 2 exact rfl)
        | (apply kg; iterate 2 exact rfl)
        | (apply kG; iterate 3 exact rfl)
        | (apply kB; (iterate 2 exact rfl); intro _)
        | (apply kA; exact rfl; intro _)
        | (apply kL; (iterate 3 exact rfl); (· repeat (first | exact BS.nil _ | (apply BS.int; exact rfl) | (apply BS.ptr; exact rfl) | (apply BS.slice; exact rfl) | (apply BS.agg; iterate 2 exact rfl))); intro _)
        | (apply kT; (iterate 2 exact rfl); (· repeat (first | exact sH _ _ _ | apply sT)); iterate 2 exact rfl)
        | (apply kS; (iterate 2 exact rfl); (· repeat (first | exact sH _ _ _ | apply sT)); exact rfl)
        | (apply kh; (iterate 2 exact rfl); (first | decide | omega); exact rfl)
        | (apply kl; (iterate 2 exact rfl); (first | decide | omega); exact rfl)
        )
      | ((first | (apply kR; (· exact rfl); (· exact rfl)) | (apply kQ; (· exact rfl))); all_goals (intro hc; try simp only [decide_eq_true_eq, decide_eq_false_iff_not, Bool.not_eq_true', Bool.not_eq_false', Bool.not_eq_true, Bool.not_eq_false, Bool.not_true, Bool.not_false, Int.not_lt, Int.not_le, List.cons.injEq, and_true, beq_iff_eq, beq_eq_false_iff_ne] at hc; try (exfalso; first | contradiction | omega)))
      )
    all_goals (
      apply LR.call
      · exact rfl
      intro w1 h1
      refine (c38 w1).mono ?_
      rintro v w2 ⟨ba, rfl, hn⟩
      have h2 := ((h1.got hn (Asrt.dep_own _ _)).bun_nil MsgA.dep).swap.join rfl rfl
      refine LR.back h2 ?_
      clear h2 h1 hn
      repeat' (
        first
        | (
          first
          | (apply kp; iterate 2 exact rfl)
          | apply ja | apply jb | apply jg | apply jj | (apply je; exact rfl) | (apply jf; exact rfl) | apply jd | apply jh | apply ji | (apply jc; kernel_rfl) | apply jk | apply jl | apply jm | apply jn | apply jo | (apply jp; exact rfl) | apply jq | apply jr | apply js | apply jt | apply ju | apply jv | apply jw | apply kN | apply kM
          | (apply kf; iterate 2 exact rfl)
          | (apply ko; (· exact rfl); (· repeat (first | exact mH _ _ | apply mT)); iterate 2 exact rfl)
          | (apply ka; (· exact rfl); (· repeat (first | exact mH _ _ | apply mT)); iterate 2 exact rfl)
          | (apply kr; (· exact rfl); (· repeat (first | exact mH _ _ | apply mT)); iterate 3 exact rfl)
          | (apply ks; (· exact rfl); (· repeat (first | exact mH _ _ | apply mT)); iterate 2 exact rfl)
          | (apply kn; iterate 2 exact rfl)
          | (apply ke; iterate 2 exact rfl)
          | (apply kx; iterate 2 exact rfl)
          | (apply kc; iterate 2 exact rfl)
          | (apply kb; iterate 2 exact rfl)
          | (apply kg; iterate 2 exact rfl)
          | (apply kG; iterate 3 exact rfl)
          | (apply kB; (iterate 2 exact rfl); intro _)
          | (apply kA; exact rfl; intro _)
          | (apply kL; (iterate 3 exact rfl); (· repeat (first | exact BS.nil _ | (apply BS.int; exact rfl) | (apply BS.ptr; exact rfl) | (apply BS.slice; exact rfl) | (apply BS.agg; iterate 2 exact rfl))); intro _)
          | (apply kT; (iterate 2 exact rfl); (· repeat (first | exact sH _ _ _ | apply sT)); iterate 2 exact rfl)
          | (apply kS; (iterate 2 exact rfl); (· repeat (first | exact sH _ _ _ | apply sT)); exact rfl)
          | (apply kh; (iterate 2 exact rfl); (first | decide | omega); exact rfl)
          | (apply kl; (iterate 2 exact rfl); (first | decide | omega); exact rfl)
          )
        | ((first | (apply kR; (· exact rfl); (· exact rfl)) | (apply kQ; (· exact rfl))); all_goals (intro hc; try simp only [decide_eq_true_eq, decide_eq_false_iff_not, Bool.not_eq_true', Bool.not_eq_false', Bool.not_eq_true, Bool.not_eq_false, Bool.not_true, Bool.not_false, Int.not_lt, Int.not_le, List.cons.injEq, and_true, beq_iff_eq, beq_eq_false_iff_ne] at hc; try (exfalso; first | contradiction | omega)))
        )
      apply LR.call
      · exact rfl
      intro w1 h1
      refine (c38 w1).mono ?_
      rintro v w2 ⟨bb, rfl, hn⟩
      have h2 := ((h1.got hn (Asrt.dep_own _ _)).bun_nil MsgA.dep).swap.join rfl rfl
      refine LR.back h2 ?_
      clear h2 h1 hn
      repeat' (
        first
        | (
          first
          | (apply kp; iterate 2 exact rfl)
          | apply ja | apply jb | apply jg | apply jj | (apply je; exact rfl) | (apply jf; exact rfl) | apply jd | apply jh | apply ji | (apply jc; kernel_rfl) | apply jk | apply jl | apply jm | apply jn | apply jo | (apply jp; exact rfl) | apply jq | apply jr | apply js | apply jt | apply ju | apply jv | apply jw | apply kN | apply kM
          | (apply kf; iterate 2 exact rfl)
          | (apply ko; (· exact rfl); (· repeat (first | exact mH _ _ | apply mT)); iterate 2 exact rfl)
          | (apply ka; (· exact rfl); (· repeat (first | exact mH _ _ | apply mT)); iterate 2 exact rfl)
          | (apply kr; (· exact rfl); (· repeat (first | exact mH _ _ | apply mT)); iterate 3 exact rfl)
          | (apply ks; (· exact rfl); (· repeat (first | exact mH _ _ | apply mT)); iterate 2 exact rfl)
          | (apply kn; iterate 2 exact rfl)
          | (apply ke; iterate 2 exact rfl)
          | (apply kx; iterate 2 exact rfl)
          | (apply kc; iterate 2 exact rfl)
          | (apply kb; iterate 2 exact rfl)
          | (apply kg; iterate 2 exact rfl)
          | (apply kG; iterate 3 exact rfl)
          | (apply kB; (iterate 2 exact rfl); intro _)
          | (apply kA; exact rfl; intro _)
          | (apply kL; (iterate 3 exact rfl); (· repeat (first | exact BS.nil _ | (apply BS.int; exact rfl) | (apply BS.ptr; exact rfl) | (apply BS.slice; exact rfl) | (apply BS.agg; iterate 2 exact rfl))); intro _)
          | (apply kT; (iterate 2 exact rfl); (· repeat (first | exact sH _ _ _ | apply sT)); iterate 2 exact rfl)
          | (apply kS; (iterate 2 exact rfl); (· repeat (first | exact sH _ _ _ | apply sT)); exact rfl)
          | (apply kh; (iterate 2 exact rfl); (first | decide | omega); exact rfl)
          | (apply kl; (iterate 2 exact rfl); (first | decide | omega); exact rfl)
          )
        | ((first | (apply kR; (· exact rfl); (· exact rfl)) | (apply kQ; (· exact rfl))); all_goals (intro hc; try simp only [decide_eq_true_eq, decide_eq_false_iff_not, Bool.not_eq_true', Bool.not_eq_false', Bool.not_eq_true, Bool.not_eq_false, Bool.not_true, Bool.not_false, Int.not_lt, Int.not_le, List.cons.injEq, and_true, beq_iff_eq, beq_eq_false_iff_ne] at hc; try (exfalso; first | contradiction | omega)))
        )
      apply LR.call
      · exact rfl
      intro w1 h1
      have h3 := front h1 2 rfl rfl
      have hh := put_old (b := ba) (first := 0) (slots := List.replicate 32 zeroA) (L := []) (al := am) (cl := cm) (l := may) h3 (mT _ (mH _ _)) QRep.start rfl (ownsRow_rd h3.g0) (fun k hk => St.osl_foot hk) hRm (by omega)
      rw [qputE_ok (n := ([] : List MsgA).length) hck (by simp; omega)] at hh
      refine CallsTo.mono hh ?_
      clear hh h3
      rintro v w2 ⟨sa, La, rfl, ra, ma, st⟩
      have h2 := h1.one' (L' := [both (qB bb 0 ([] : List MsgA).length (List.replicate 32 zeroA)) (bunB []), qO ba 0 sa La, mS am cm may, rdA al (l.flatMap MsgA.row)]) st rfl (qO_dep _ _ _ _) (by (repeat (first | exact sH _ _ _ | apply sT)))
      refine LR.back h2 ?_
      clear h2 h1 st
      repeat' (
        first
        | (
          first
          | (apply kp; iterate 2 exact rfl)
          | apply ja | apply jb | apply jg | apply jj | (apply je; exact rfl) | (apply jf; exact rfl) | apply jd | apply jh | apply ji | (apply jc; kernel_rfl) | apply jk | apply jl | apply jm | apply jn | apply jo | (apply jp; exact rfl) | apply jq | apply jr | apply js | apply jt | apply ju | apply jv | apply jw | apply kN | apply kM
          | (apply kf; iterate 2 exact rfl)
          | (apply ko; (· exact rfl); (· repeat (first | exact mH _ _ | apply mT)); iterate 2 exact rfl)
          | (apply ka; (· exact rfl); (· repeat (first | exact mH _ _ | apply mT)); iterate 2 exact rfl)
          | (apply kr; (· exact rfl); (· repeat (first | exact mH _ _ | apply mT)); iterate 3 exact rfl)
          | (apply ks; (· exact rfl); (· repeat (first | exact mH _ _ | apply mT)); iterate 2 exact rfl)
          | (apply kn; iterate 2 exact rfl)
          | (apply ke; iterate 2 exact rfl)
          | (apply kx; iterate 2 exact rfl)
          | (apply kc; iterate 2 exact rfl)
          | (apply kb; iterate 2 exact rfl)
          | (apply kg; iterate 2 exact rfl)
          | (apply kG; iterate 3 exact rfl)
          | (apply kB; (iterate 2 exact rfl); intro _)
          | (apply kA; exact rfl; intro _)
          | (apply kL; (iterate 3 exact rfl); (· repeat (first | exact BS.nil _ | (apply BS.int; exact rfl) | (apply BS.ptr; exact rfl) | (apply BS.slice; exact rfl) | (apply BS.agg; iterate 2 exact rfl))); intro _)
          | (apply kT; (iterate 2 exact rfl); (· repeat (first | exact sH _ _ _ | apply sT)); iterate 2 exact rfl)
          | (apply kS; (iterate 2 exact rfl); (· repeat (first | exact sH _ _ _ | apply sT)); exact rfl)
          | (apply kh; (iterate 2 exact rfl); (first | decide | omega); exact rfl)
          | (apply kl; (iterate 2 exact rfl); (first | decide | omega); exact rfl)
          )
        | ((first | (apply kR; (· exact rfl); (· exact rfl)) | (apply kQ; (· exact rfl))); all_goals (intro hc; try simp only [decide_eq_true_eq, decide_eq_false_iff_not, Bool.not_eq_true', Bool.not_eq_false', Bool.not_eq_true, Bool.not_eq_false, Bool.not_true, Bool.not_false, Int.not_lt, Int.not_le, List.cons.injEq, and_true, beq_iff_eq, beq_eq_false_iff_ne] at hc; try (exfalso; first | contradiction | omega)))
        )
      apply CW.loop [2, 7, 44, 45, 46, 47, 48, 49, 50, 51, 52, 53, 54, 55, 56, 57] (fun s : Nat × List MsgA × List MsgA => s.1 ≤ may.length ∧ QRep 0 s.2.1 s.2.2 ∧ s.2.2.map MsgA.m = (may.take s.1).map MsgA.m) (fun s => [(7, Value.int .i64 (s.1 : Int))])
        (fun s => St w NoF [qO bb 0 s.2.1 s.2.2, qO ba 0 sa La, mS am cm may]) (fun s => may.length - s.1)
      · exact fun w' hw' => ⟨(0, List.replicate 32 zeroA, []), ⟨by simp, QRep.start, by simp⟩, ⟨rfl, trivial⟩, (hw'.cast (L' := [qO bb 0 (List.replicate 32 zeroA) [], qO ba 0 sa La, mS am cm may, rdA al (l.flatMap MsgA.row)]) rfl).sub (by repeat (first | exact List.Sublist.refl _ | apply List.Sublist.cons_cons | apply List.Sublist.cons))⟩
      rintro ⟨j, sb, Lb⟩ g2 ⟨hj, rb, mb⟩
      simp only at hj rb mb ⊢
      have nb : Lb.length = j := by have := congrArg List.length mb; simp at this; omega
      by_cases hlt2 : j < may.length
      · have hne : may.flatMap MsgA.row ≠ [] := rows_ne MsgA.row_len (by omega) hlt2
        refine LR_cls_cw fun w1 hw1 => ?_
        obtain ⟨bx, ox, rfl⟩ := (ownsRow_rd (hw1.holds (mS am cm may) (by (repeat (first | exact mH _ _ | apply mT))))).form hne
        refine CW.sub (D := St w NoF _) ?_ (fun u e => e ▸ hw1)
        repeat' (
          first
          | (
            first
            | (apply kp; iterate 2 exact rfl)
            | apply ja | apply jb | apply jg | apply jj | (apply je; exact rfl) | (apply jf; exact rfl) | apply jd | apply jh | apply ji | (apply jc; kernel_rfl) | apply jk | apply jl | apply jm | apply jn | apply jo | (apply jp; exact rfl) | apply jq | apply jr | apply js | apply jt | apply ju | apply jv | apply jw | apply kN | apply kM
            | (apply kf; iterate 2 exact rfl)
            | (apply ko; (· exact rfl); (· repeat (first | exact mH _ _ | apply mT)); iterate 2 exact rfl)
            | (apply ka; (· exact rfl); (· repeat (first | exact mH _ _ | apply mT)); iterate 2 exact rfl)
            | (apply kr; (· exact rfl); (· repeat (first | exact mH _ _ | apply mT)); iterate 3 exact rfl)
            | (apply ks; (· exact rfl); (· repeat (first | exact mH _ _ | apply mT)); iterate 2 exact rfl)
            | (apply kn; iterate 2 exact rfl)
            | (apply ke; iterate 2 exact rfl)
            | (apply kx; iterate 2 exact rfl)
            | (apply kc; iterate 2 exact rfl)
            | (apply kb; iterate 2 exact rfl)
            | (apply kg; iterate 2 exact rfl)
            | (apply kG; iterate 3 exact rfl)
            | (apply kB; (iterate 2 exact rfl); intro _)
            | (apply kA; exact rfl; intro _)
            | (apply kL; (iterate 3 exact rfl); (· repeat (first | exact BS.nil _ | (apply BS.int; exact rfl) | (apply BS.ptr; exact rfl) | (apply BS.slice; exact rfl) | (apply BS.agg; iterate 2 exact rfl))); intro _)
            | (apply kT; (iterate 2 exact rfl); (· repeat (first | exact sH _ _ _ | apply sT)); iterate 2 exact rfl)
            | (apply kS; (iterate 2 exact rfl); (· repeat (first | exact sH _ _ _ | apply sT)); exact rfl)
            | (apply kh; (iterate 2 exact rfl); (first | decide | omega); exact rfl)
            | (apply kl; (iterate 2 exact rfl); (first | decide | omega); exact rfl)
            )
          | (apply LR.ev; (· apply Ev.indexAddr; (· exact rfl); (· exact rfl); (· first | omega | (dsimp only; omega)); (· first | omega | (dsimp only; omega))); (· exact rfl))
          | (apply LR.ev; (· apply Ev.load_agg_at (cs := may[j].row); (· exact rfl); (· exact rfl); (· intro w' hw'; exact rd_row MsgA.row_len (ownsRow_rd (hw'.holds (mS (some ⟨bx, ox, none⟩) cm may) (by (repeat (first | exact mH _ _ | apply mT))))) hlt2 (by simp))); (· exact rfl))
          | ((first | (apply kR; (· exact rfl); (· exact rfl)) | (apply kQ; (· exact rfl))); all_goals (intro hc; try simp only [decide_eq_true_eq, decide_eq_false_iff_not, Bool.not_eq_true', Bool.not_eq_false', Bool.not_eq_true, Bool.not_eq_false, Bool.not_true, Bool.not_false, Int.not_lt, Int.not_le, List.cons.injEq, and_true, beq_iff_eq, beq_eq_false_iff_ne] at hc; try (exfalso; first | contradiction | omega)))
          )
        apply LR.call
        · exact rfl
        intro w1 h1
        have hh := put_old (b := bb) (first := 0) (slots := sb) (L := Lb) (al := some ⟨_, 0, none⟩) (cl := 1) (l := [may[j]]) h1 (mH _ _) rb rfl (h1.rd_of_blk (mH _ _)) (fun k hk => by obtain ⟨_, ad, e, rfl⟩ := hk; cases e; rfl) (fun x hx => by simp at hx; subst hx; exact hRm _ (List.getElem_mem hlt2)) (by simp)
        rw [qputE_ok (n := Lb.length) (l := [may[j]]) (fun x hx => by simp at hx; subst hx; exact hck _ (List.getElem_mem hlt2)) (by simp; omega)] at hh
        refine CallsTo.mono hh ?_
        clear hh
        rintro v w2 ⟨sb2, Lb2, rfl, rb2, mb2, st⟩
        have h2 := h1.one' st rfl (qO_dep _ _ _ _) (by (repeat (first | exact sH _ _ _ | apply sT)))
        refine LR.back h2 ?_
        clear h2 h1 st
        repeat' (
          first
          | (
            first
            | (apply kp; iterate 2 exact rfl)
            | apply ja | apply jb | apply jg | apply jj | (apply je; exact rfl) | (apply jf; exact rfl) | apply jd | apply jh | apply ji | (apply jc; kernel_rfl) | apply jk | apply jl | apply jm | apply jn | apply jo | (apply jp; exact rfl) | apply jq | apply jr | apply js | apply jt | apply ju | apply jv | apply jw | apply kN | apply kM
            | (apply kf; iterate 2 exact rfl)
            | (apply ko; (· exact rfl); (· repeat (first | exact mH _ _ | apply mT)); iterate 2 exact rfl)
            | (apply ka; (· exact rfl); (· repeat (first | exact mH _ _ | apply mT)); iterate 2 exact rfl)
            | (apply kr; (· exact rfl); (· repeat (first | exact mH _ _ | apply mT)); iterate 3 exact rfl)
            | (apply ks; (· exact rfl); (· repeat (first | exact mH _ _ | apply mT)); iterate 2 exact rfl)
            | (apply kn; iterate 2 exact rfl)
            | (apply ke; iterate 2 exact rfl)
            | (apply kx; iterate 2 exact rfl)
            | (apply kc; iterate 2 exact rfl)
            | (apply kb; iterate 2 exact rfl)
            | (apply kg; iterate 2 exact rfl)
            | (apply kG; iterate 3 exact rfl)
            | (apply kB; (iterate 2 exact rfl); intro _)
            | (apply kA; exact rfl; intro _)
            | (apply kL; (iterate 3 exact rfl); (· repeat (first | exact BS.nil _ | (apply BS.int; exact rfl) | (apply BS.ptr; exact rfl) | (apply BS.slice; exact rfl) | (apply BS.agg; iterate 2 exact rfl))); intro _)
            | (apply kT; (iterate 2 exact rfl); (· repeat (first | exact sH _ _ _ | apply sT)); iterate 2 exact rfl)
            | (apply kS; (iterate 2 exact rfl); (· repeat (first | exact sH _ _ _ | apply sT)); exact rfl)
            | (apply kh; (iterate 2 exact rfl); (first | decide | omega); exact rfl)
            | (apply kl; (iterate 2 exact rfl); (first | decide | omega); exact rfl)
            )
          | (apply LR.ev; (· apply Ev.add; (· exact rfl); (· exact rfl); (· first | omega | (dsimp only; omega)); (· first | omega | (dsimp only; omega))); (· exact rfl))
          | ((first | (apply kR; (· exact rfl); (· exact rfl)) | (apply kQ; (· exact rfl))); all_goals (intro hc; try simp only [decide_eq_true_eq, decide_eq_false_iff_not, Bool.not_eq_true', Bool.not_eq_false', Bool.not_eq_true, Bool.not_eq_false, Bool.not_true, Bool.not_false, Int.not_lt, Int.not_le, List.cons.injEq, and_true, beq_iff_eq, beq_eq_false_iff_ne] at hc; try (exfalso; first | contradiction | omega)))
          )
        apply At.again (j + 1, sb2, Lb2)
        · refine ⟨by show j + 1 ≤ _; omega, rb2, ?_⟩
          show Lb2.map MsgA.m = (may.take (j + 1)).map MsgA.m
          rw [mb2, if_pos rfl, mb, List.take_succ_eq_append_getElem hlt2, List.map_append]
          try rfl
        · (repeat (first | exact Out.refl _ _ | exact Out.mix | (apply Out.upd; (· exact rfl)) | (apply Out.updL; (· exact rfl)) | (apply Out.mixs; (· exact rfl))))
        · exact ⟨rfl, trivial⟩
        · exact fun w' hw' => hw'.sub (by repeat (first | exact List.Sublist.refl _ | apply List.Sublist.cons_cons | apply List.Sublist.cons))
        · show may.length - (j + 1) < may.length - j
          omega
      · rw [List.take_of_length_le (by omega)] at mb
        simp only [if_true, List.map_nil, List.nil_append] at ma
        repeat' (
          first
          | (
            first
            | (apply kp; iterate 2 exact rfl)
            | apply ja | apply jb | apply jg | apply jj | (apply je; exact rfl) | (apply jf; exact rfl) | apply jd | apply jh | apply ji | (apply jc; kernel_rfl) | apply jk | apply jl | apply jm | apply jn | apply jo | (apply jp; exact rfl) | apply jq | apply jr | apply js | apply jt | apply ju | apply jv | apply jw | apply kN | apply kM
            | (apply kf; iterate 2 exact rfl)
            | (apply ko; (· exact rfl); (· repeat (first | exact mH _ _ | apply mT)); iterate 2 exact rfl)
            | (apply ka; (· exact rfl); (· repeat (first | exact mH _ _ | apply mT)); iterate 2 exact rfl)
            | (apply kr; (· exact rfl); (· repeat (first | exact mH _ _ | apply mT)); iterate 3 exact rfl)
            | (apply ks; (· exact rfl); (· repeat (first | exact mH _ _ | apply mT)); iterate 2 exact rfl)
            | (apply kn; iterate 2 exact rfl)
            | (apply ke; iterate 2 exact rfl)
            | (apply kx; iterate 2 exact rfl)
            | (apply kc; iterate 2 exact rfl)
            | (apply kb; iterate 2 exact rfl)
            | (apply kg; iterate 2 exact rfl)
            | (apply kG; iterate 3 exact rfl)
            | (apply kB; (iterate 2 exact rfl); intro _)
            | (apply kA; exact rfl; intro _)
            | (apply kL; (iterate 3 exact rfl); (· repeat (first | exact BS.nil _ | (apply BS.int; exact rfl) | (apply BS.ptr; exact rfl) | (apply BS.slice; exact rfl) | (apply BS.agg; iterate 2 exact rfl))); intro _)
            | (apply kT; (iterate 2 exact rfl); (· repeat (first | exact sH _ _ _ | apply sT)); iterate 2 exact rfl)
            | (apply kS; (iterate 2 exact rfl); (· repeat (first | exact sH _ _ _ | apply sT)); exact rfl)
            | (apply kh; (iterate 2 exact rfl); (first | decide | omega); exact rfl)
            | (apply kl; (iterate 2 exact rfl); (first | decide | omega); exact rfl)
            )
          | ((first | (apply kR; (· exact rfl); (· exact rfl)) | (apply kQ; (· exact rfl))); all_goals (intro hc; try simp only [decide_eq_true_eq, decide_eq_false_iff_not, Bool.not_eq_true', Bool.not_eq_false', Bool.not_eq_true, Bool.not_eq_false, Bool.not_true, Bool.not_false, Int.not_lt, Int.not_le, List.cons.injEq, and_true, beq_iff_eq, beq_eq_false_iff_ne] at hc; try (exfalso; first | contradiction | omega)))
          )
        apply CW.loop [2, 8, 9, 10, 11, 58, 59, 60, 61, 62, 63, 64, 65, 66, 67, 68, 69, 70, 71, 72, 73, 74, 75, 76, 77, 78, 79, 80, 81, 82, 83, 84, 85, 86, 87, 88, 89, 90, 91, 92, 93, 94, 95, 96, 97, 98, 99, 100, 101] (fun s : (Nat × List MsgA × List MsgA) × Nat × List MsgA × List MsgA => QRep s.1.1 s.1.2.1 s.1.2.2 ∧ QRep s.2.1 s.2.2.1 s.2.2.2 ∧ s.1.2.2.length ≤ may.length ∧ s.1.2.2.map MsgA.m = (may.drop (may.length - s.1.2.2.length)).map MsgA.m ∧ s.2.2.2.map MsgA.m = s.1.2.2.map MsgA.m) (fun s => [])
          (fun s => St w NoF [qO bb s.2.1 s.2.2.1 s.2.2.2, qO ba s.1.1 s.1.2.1 s.1.2.2, mS am cm may]) (fun s => s.1.2.2.length)
        · intro w' hw'
          have na : La.length = may.length := by have := congrArg List.length ma; simpa using this
          exact ⟨((0, sa, La), 0, sb, Lb), ⟨ra, rb, by show La.length ≤ _; omega, by show La.map MsgA.m = _; rw [ma]; simp [na], by show Lb.map MsgA.m = La.map MsgA.m; rw [mb, ma]⟩, trivial, hw'⟩
        clear ma ra rb mb
        rintro ⟨⟨fa, sa, La⟩, fb, sb, Lb⟩ g3 ⟨ra, rb, hla, ma, mb⟩
        simp only at ra rb hla ma mb ⊢
        have nb : Lb.length = La.length := by have := congrArg List.length mb; simpa using this
        rcases La with _ | ⟨x, La⟩
        · have hLb : Lb = [] := List.eq_nil_of_length_eq_zero nb
          subst hLb
          repeat' (
            first
            | (
              first
              | (apply kp; iterate 2 exact rfl)
              | apply ja | apply jb | apply jg | apply jj | (apply je; exact rfl) | (apply jf; exact rfl) | apply jd | apply jh | apply ji | (apply jc; kernel_rfl) | apply jk | apply jl | apply jm | apply jn | apply jo | (apply jp; exact rfl) | apply jq | apply jr | apply js | apply jt | apply ju | apply jv | apply jw | apply kN | apply kM
              | (apply kf; iterate 2 exact rfl)
              | (apply ko; (· exact rfl); (· repeat (first | exact mH _ _ | apply mT)); iterate 2 exact rfl)
              | (apply ka; (· exact rfl); (· repeat (first | exact mH _ _ | apply mT)); iterate 2 exact rfl)
              | (apply kr; (· exact rfl); (· repeat (first | exact mH _ _ | apply mT)); iterate 3 exact rfl)
              | (apply ks; (· exact rfl); (· repeat (first | exact mH _ _ | apply mT)); iterate 2 exact rfl)
              | (apply kn; iterate 2 exact rfl)
              | (apply ke; iterate 2 exact rfl)
              | (apply kx; iterate 2 exact rfl)
              | (apply kc; iterate 2 exact rfl)
              | (apply kb; iterate 2 exact rfl)
              | (apply kg; iterate 2 exact rfl)
              | (apply kG; iterate 3 exact rfl)
              | (apply kB; (iterate 2 exact rfl); intro _)
              | (apply kA; exact rfl; intro _)
              | (apply kL; (iterate 3 exact rfl); (· repeat (first | exact BS.nil _ | (apply BS.int; exact rfl) | (apply BS.ptr; exact rfl) | (apply BS.slice; exact rfl) | (apply BS.agg; iterate 2 exact rfl))); intro _)
              | (apply kT; (iterate 2 exact rfl); (· repeat (first | exact sH _ _ _ | apply sT)); iterate 2 exact rfl)
              | (apply kS; (iterate 2 exact rfl); (· repeat (first | exact sH _ _ _ | apply sT)); exact rfl)
              | (apply kh; (iterate 2 exact rfl); (first | decide | omega); exact rfl)
              | (apply kl; (iterate 2 exact rfl); (first | decide | omega); exact rfl)
              )
            | (apply kq; (· exact rfl); (· intro w1 h1; first | exact CallsTo.q (c46 ba (fa) ([]).length (sa) w1 (qO_rd (h1.holds (qO ba (fa) (sa) ([])) (by (repeat (first | exact mH _ _ | apply mT)))))) h1 | exact CallsTo.q (c46 bb (fb) ([]).length (sb) w1 (qO_rd (h1.holds (qO bb (fb) (sb) ([])) (by (repeat (first | exact mH _ _ | apply mT)))))) h1))
            | ((first | (apply kR; (· exact rfl); (· exact rfl)) | (apply kQ; (· exact rfl))); all_goals (intro hc; try simp only [decide_eq_true_eq, decide_eq_false_iff_not, Bool.not_eq_true', Bool.not_eq_false', Bool.not_eq_true, Bool.not_eq_false, Bool.not_true, Bool.not_false, Int.not_lt, Int.not_le, List.cons.injEq, and_true, beq_iff_eq, beq_eq_false_iff_ne] at hc; try (exfalso; first | contradiction | omega)))
            )
          (apply ret1; (· exact rfl); intro w' hS)
          exact ⟨rfl, hS.toKeep⟩
        · rcases Lb with _ | ⟨y, Lb⟩
          · simp at nb
          have hl1 : (x :: La).length = La.length + 1 := rfl
          have hl2 : (y :: Lb).length = Lb.length + 1 := rfl
          obtain ⟨k, hk⟩ : ∃ k, k = may.length - (La.length + 1) := ⟨_, rfl⟩
          have hkl : k < may.length := by omega
          rw [hl1, ← hk, List.drop_eq_getElem_cons hkl] at ma
          simp only [List.map_cons, List.cons.injEq] at ma mb
          have hne : may.flatMap MsgA.row ≠ [] := rows_ne MsgA.row_len (by omega) hkl
          refine LR_cls_cw fun w1 hw1 => ?_
          obtain ⟨bx, ox, rfl⟩ := (ownsRow_rd (hw1.holds (mS am cm may) (by (repeat (first | exact mH _ _ | apply mT))))).form hne
          refine CW.sub (D := St w NoF _) ?_ (fun u e => e ▸ hw1)
          repeat' (
            first
            | (
              first
              | (apply kp; iterate 2 exact rfl)
              | apply ja | apply jb | apply jg | apply jj | (apply je; exact rfl) | (apply jf; exact rfl) | apply jd | apply jh | apply ji | (apply jc; kernel_rfl) | apply jk | apply jl | apply jm | apply jn | apply jo | (apply jp; exact rfl) | apply jq | apply jr | apply js | apply jt | apply ju | apply jv | apply jw | apply kN | apply kM
              | (apply kf; iterate 2 exact rfl)
              | (apply ko; (· exact rfl); (· repeat (first | exact mH _ _ | apply mT)); iterate 2 exact rfl)
              | (apply ka; (· exact rfl); (· repeat (first | exact mH _ _ | apply mT)); iterate 2 exact rfl)
              | (apply kr; (· exact rfl); (· repeat (first | exact mH _ _ | apply mT)); iterate 3 exact rfl)
              | (apply ks; (· exact rfl); (· repeat (first | exact mH _ _ | apply mT)); iterate 2 exact rfl)
              | (apply kn; iterate 2 exact rfl)
              | (apply ke; iterate 2 exact rfl)
              | (apply kx; iterate 2 exact rfl)
              | (apply kc; iterate 2 exact rfl)
              | (apply kb; iterate 2 exact rfl)
              | (apply kg; iterate 2 exact rfl)
              | (apply kG; iterate 3 exact rfl)
              | (apply kB; (iterate 2 exact rfl); intro _)
              | (apply kA; exact rfl; intro _)
              | (apply kL; (iterate 3 exact rfl); (· repeat (first | exact BS.nil _ | (apply BS.int; exact rfl) | (apply BS.ptr; exact rfl) | (apply BS.slice; exact rfl) | (apply BS.agg; iterate 2 exact rfl))); intro _)
              | (apply kT; (iterate 2 exact rfl); (· repeat (first | exact sH _ _ _ | apply sT)); iterate 2 exact rfl)
              | (apply kS; (iterate 2 exact rfl); (· repeat (first | exact sH _ _ _ | apply sT)); exact rfl)
              | (apply kh; (iterate 2 exact rfl); (first | decide | omega); exact rfl)
              | (apply kl; (iterate 2 exact rfl); (first | decide | omega); exact rfl)
              )
            | (apply kq; (· exact rfl); (· intro w1 h1; first | exact CallsTo.q (c46 ba (fa) (x :: La).length (sa) w1 (qO_rd (h1.holds (qO ba (fa) (sa) (x :: La)) (by (repeat (first | exact mH _ _ | apply mT)))))) h1 | exact CallsTo.q (c46 bb (fb) (y :: Lb).length (sb) w1 (qO_rd (h1.holds (qO bb (fb) (sb) (y :: Lb)) (by (repeat (first | exact mH _ _ | apply mT)))))) h1))
            | ((first | (apply kR; (· exact rfl); (· exact rfl)) | (apply kQ; (· exact rfl))); all_goals (intro hc; try simp only [decide_eq_true_eq, decide_eq_false_iff_not, Bool.not_eq_true', Bool.not_eq_false', Bool.not_eq_true, Bool.not_eq_false, Bool.not_true, Bool.not_false, Int.not_lt, Int.not_le, List.cons.injEq, and_true, beq_iff_eq, beq_eq_false_iff_ne] at hc; try (exfalso; first | contradiction | omega)))
            )
          apply LR.call
          · exact rfl
          intro w1 h1
          refine (take_own ba fa sa La x w1 (h1.holds (qO ba fa sa (x :: La)) (by (repeat (first | exact mH _ _ | apply mT)))) ra).mono ?_
          rintro v w2 ⟨rfl, sa2, ra2, st⟩
          have h2 := h1.two st rfl rfl rfl (by (repeat (first | exact sH _ _ _ | apply sT)))
          refine LR.back h2 ?_
          clear h2 h1 st
          repeat' (
            first
            | (
              first
              | (apply kp; iterate 2 exact rfl)
              | apply ja | apply jb | apply jg | apply jj | (apply je; exact rfl) | (apply jf; exact rfl) | apply jd | apply jh | apply ji | (apply jc; kernel_rfl) | apply jk | apply jl | apply jm | apply jn | apply jo | (apply jp; exact rfl) | apply jq | apply jr | apply js | apply jt | apply ju | apply jv | apply jw | apply kN | apply kM
              | (apply kf; iterate 2 exact rfl)
              | (apply ko; (· exact rfl); (· repeat (first | exact mH _ _ | apply mT)); iterate 2 exact rfl)
              | (apply ka; (· exact rfl); (· repeat (first | exact mH _ _ | apply mT)); iterate 2 exact rfl)
              | (apply kr; (· exact rfl); (· repeat (first | exact mH _ _ | apply mT)); iterate 3 exact rfl)
              | (apply ks; (· exact rfl); (· repeat (first | exact mH _ _ | apply mT)); iterate 2 exact rfl)
              | (apply kn; iterate 2 exact rfl)
              | (apply ke; iterate 2 exact rfl)
              | (apply kx; iterate 2 exact rfl)
              | (apply kc; iterate 2 exact rfl)
              | (apply kb; iterate 2 exact rfl)
              | (apply kg; iterate 2 exact rfl)
              | (apply kG; iterate 3 exact rfl)
              | (apply kB; (iterate 2 exact rfl); intro _)
              | (apply kA; exact rfl; intro _)
              | (apply kL; (iterate 3 exact rfl); (· repeat (first | exact BS.nil _ | (apply BS.int; exact rfl) | (apply BS.ptr; exact rfl) | (apply BS.slice; exact rfl) | (apply BS.agg; iterate 2 exact rfl))); intro _)
              | (apply kT; (iterate 2 exact rfl); (· repeat (first | exact sH _ _ _ | apply sT)); iterate 2 exact rfl)
              | (apply kS; (iterate 2 exact rfl); (· repeat (first | exact sH _ _ _ | apply sT)); exact rfl)
              | (apply kh; (iterate 2 exact rfl); (first | decide | omega); exact rfl)
              | (apply kl; (iterate 2 exact rfl); (first | decide | omega); exact rfl)
              )
            | ((first | (apply kR; (· exact rfl); (· exact rfl)) | (apply kQ; (· exact rfl))); all_goals (intro hc; try simp only [decide_eq_true_eq, decide_eq_false_iff_not, Bool.not_eq_true', Bool.not_eq_false', Bool.not_eq_true, Bool.not_eq_false, Bool.not_true, Bool.not_false, Int.not_lt, Int.not_le, List.cons.injEq, and_true, beq_iff_eq, beq_eq_false_iff_ne] at hc; try (exfalso; first | contradiction | omega)))
            )
          apply LR.call
          · exact rfl
          intro w1 h1
          refine (take_own bb fb sb Lb y w1 (h1.holds (qO bb fb sb (y :: Lb)) (by (repeat (first | exact mH _ _ | apply mT)))) rb).mono ?_
          rintro v w2 ⟨rfl, sb2, rb2, st⟩
          have h2 := h1.two st rfl rfl rfl (by (repeat (first | exact sH _ _ _ | apply sT)))
          refine LR.back h2 ?_
          clear h2 h1 st
          have hxm : x.m.body.length ≤ 140737488355328 := by rw [ma.1]; exact (hRm _ (List.getElem_mem hkl)).hm
          repeat' (
            first
            | (apply CW.reg_heldC)
            | (
              first
              | (apply kp; iterate 2 exact rfl)
              | apply ja | apply jb | apply jg | apply jj | (apply je; exact rfl) | (apply jf; exact rfl) | apply jd | apply jh | apply ji | (apply jc; kernel_rfl) | apply jk | apply jl | apply jm | apply jn | apply jo | (apply jp; exact rfl) | apply jq | apply jr | apply js | apply jt | apply ju | apply jv | apply jw | apply kN | apply kM
              | (apply kf; iterate 2 exact rfl)
              | (apply ko; (· exact rfl); (· repeat (first | exact mH _ _ | apply mT)); iterate 2 exact rfl)
              | (apply ka; (· exact rfl); (· repeat (first | exact mH _ _ | apply mT)); iterate 2 exact rfl)
              | (apply kr; (· exact rfl); (· repeat (first | exact mH _ _ | apply mT)); iterate 3 exact rfl)
              | (apply ks; (· exact rfl); (· repeat (first | exact mH _ _ | apply mT)); iterate 2 exact rfl)
              | (apply kn; iterate 2 exact rfl)
              | (apply ke; iterate 2 exact rfl)
              | (apply kx; iterate 2 exact rfl)
              | (apply kc; iterate 2 exact rfl)
              | (apply kb; iterate 2 exact rfl)
              | (apply kg; iterate 2 exact rfl)
              | (apply kG; iterate 3 exact rfl)
              | (apply kB; (iterate 2 exact rfl); intro _)
              | (apply kA; exact rfl; intro _)
              | (apply kL; (iterate 3 exact rfl); (· repeat (first | exact BS.nil _ | (apply BS.int; exact rfl) | (apply BS.ptr; exact rfl) | (apply BS.slice; exact rfl) | (apply BS.agg; iterate 2 exact rfl))); intro _)
              | (apply kT; (iterate 2 exact rfl); (· repeat (first | exact sH _ _ _ | apply sT)); iterate 2 exact rfl)
              | (apply kS; (iterate 2 exact rfl); (· repeat (first | exact sH _ _ _ | apply sT)); exact rfl)
              | (apply kh; (iterate 2 exact rfl); (first | decide | omega); exact rfl)
              | (apply kl; (iterate 2 exact rfl); (first | decide | omega); exact rfl)
              )
            | ((first | (apply kR; (· exact rfl); (· exact rfl)) | (apply kQ; (· exact rfl))); all_goals (intro hc; try simp only [decide_eq_true_eq, decide_eq_false_iff_not, Bool.not_eq_true', Bool.not_eq_false', Bool.not_eq_true, Bool.not_eq_false, Bool.not_true, Bool.not_false, Int.not_lt, Int.not_le, List.cons.injEq, and_true, beq_iff_eq, beq_eq_false_iff_ne] at hc; try (exfalso; first | contradiction | omega)))
            )
          all_goals (
            apply DW.quiet [0, 1, 2, 3, 4, 5, 6, 7, 8]
            · decide +kernel
            · first | exact fun _ h => h | exact fun _ h => St.sub h (by repeat (first | exact List.Sublist.refl _ | apply List.Sublist.cons_cons | apply List.Sublist.cons))
            repeat' (
              first
              | (apply yp; iterate 3 exact rfl)
              | (apply QL.ev; exact rfl
                 · first
                   | (apply Ev.load_own; (· exact rfl); (· repeat (first | exact mH _ _ | apply mT)); exact rfl)
                   | (apply Ev.load_agg; (· exact rfl); (· repeat (first | exact mH _ _ | apply mT)); exact rfl)
                   | (apply Ev.load_rdq; (· exact rfl); (· repeat (first | exact mH _ _ | apply mT)); iterate 2 exact rfl)
                   | (apply Ev.load_ardq; (· exact rfl); (· repeat (first | exact mH _ _ | apply mT)); exact rfl)
                   | (apply Ev.fieldAddr; exact rfl)
                   | (apply Ev.len; exact rfl)
                   | (apply EqOf.eq; exact rfl)
                   | (apply EqOf.ne; exact rfl)
                   | (apply Ev.conv; exact rfl)
                   | (apply Ev.buildN; exact rfl)
                   | (apply Ev.shr; (iterate 2 exact rfl); first | decide | omega)
                   | (apply Ev.shl; (iterate 2 exact rfl); first | decide | omega)
                 · exact rfl)
              | (apply QL.evg; (iterate 3 exact rfl); (· first | (apply Ev.sub; (· exact rfl); (· exact rfl); (· omega); (· omega)) | (apply Ev.indexAddr; (· exact rfl); (· exact rfl); (· omega); (· omega)) | (apply Ev.load_agg_at (cs := may[k].row); (· exact rfl); (· exact rfl); (· intro w' hw'; exact rd_row MsgA.row_len (ownsRow_rd (hw'.holds (mS (some ⟨bx, ox, none⟩) cm may) (by (repeat (first | exact mH _ _ | apply mT))))) hkl (by omega)))); (· exact rfl))
              | (apply yq; iterate 5 exact rfl)
              | (apply QL.evg; iterate 3 exact rfl
                 · first
                   | (apply Ev.load_own; (· exact rfl); (· repeat (first | exact mH _ _ | apply mT)); exact rfl)
                   | (apply Ev.load_agg; (· exact rfl); (· repeat (first | exact mH _ _ | apply mT)); exact rfl)
                   | (apply Ev.load_rdq; (· exact rfl); (· repeat (first | exact mH _ _ | apply mT)); iterate 2 exact rfl)
                   | (apply Ev.load_ardq; (· exact rfl); (· repeat (first | exact mH _ _ | apply mT)); exact rfl)
                   | (apply Ev.fieldAddr; exact rfl)
                   | (apply Ev.len; exact rfl)
                   | (apply EqOf.eq; exact rfl)
                   | (apply EqOf.ne; exact rfl)
                   | (apply Ev.conv; exact rfl)
                   | (apply Ev.buildN; exact rfl)
                   | (apply Ev.shr; (iterate 2 exact rfl); first | decide | omega)
                   | (apply Ev.shl; (iterate 2 exact rfl); first | decide | omega)
                 · exact rfl)
              | (apply yn; iterate 4 exact rfl)
              | ((apply QL.split; (· exact rfl); (· exact rfl); (· exact rfl)); all_goals (intro hc; try simp only [decide_eq_true_eq, decide_eq_false_iff_not, Bool.not_eq_true', Bool.not_eq_false', Bool.not_eq_true, Bool.not_eq_false, Bool.not_true, Bool.not_false, Int.not_lt, Int.not_le, List.cons.injEq, and_true, beq_iff_eq, beq_eq_false_iff_ne] at hc; try (exfalso; first | contradiction | omega)))
              | apply QL.nil
              )
            all_goals (show DW _ _ _ _ _ _ _ _))
          all_goals (
            apply DW.loud 9
            · exact rfl
            · decide +kernel
            repeat' (
              first
              | (apply kg; iterate 2 exact rfl)
              | (apply kG; iterate 3 exact rfl)
              | apply kM
              | (
                first
                | (apply kp; iterate 2 exact rfl)
                | (apply ko; (· exact rfl); (· repeat (first | exact mH _ _ | apply mT)); iterate 2 exact rfl)
                | (apply ka; (· exact rfl); (· repeat (first | exact mH _ _ | apply mT)); iterate 2 exact rfl)
                | (apply kL; (iterate 3 exact rfl); (· repeat (first | exact BS.nil _ | (apply BS.int; exact rfl) | (apply BS.ptr; exact rfl) | (apply BS.slice; exact rfl) | (apply BS.agg; iterate 2 exact rfl))); intro _)
                | (apply kT; (iterate 2 exact rfl); (· repeat (first | exact sH _ _ _ | apply sT)); iterate 2 exact rfl)
                | (apply kS; (iterate 2 exact rfl); (· repeat (first | exact sH _ _ _ | apply sT)); exact rfl)
                | (apply kB; (iterate 2 exact rfl); intro _)
                | (apply kA; exact rfl; intro _)
                )
              | (apply kq; (· exact rfl); (· intro w1 h1; have hq := CallsTo.q (c20 x.m y.m x.a y.a x.c y.c w1 (h1.rd_of_own (by (repeat (first | exact mH _ _ | apply mT)))) (h1.rd_of_own (by (repeat (first | exact mH _ _ | apply mT)))) hxm) h1; rw [show sameB x.m y.m = true by rw [mb.1]; exact sameB_self _] at hq; show CallsTo Try.prog 20 [x.m.val x.a x.c, y.m.val y.a y.c] w1 _; exact hq))
              | (apply kq; (· exact rfl); (· intro w1 h1; have hq := CallsTo.q (c20 x.m may[k].m x.a may[k].a x.c may[k].c w1 (h1.rd_of_own (by (repeat (first | exact mH _ _ | apply mT)))) (h1.oldRd (hRm _ (List.getElem_mem hkl)).hr) hxm) h1; rw [show sameB x.m may[k].m = true by rw [ma.1]; exact sameB_self _] at hq; show CallsTo Try.prog 20 [x.m.val x.a x.c, may[k].m.val may[k].a may[k].c] w1 _; exact hq))
              | (apply kq; (· exact rfl); (· intro w1 h1; exact CallsTo.q (c46 ba ((fa + 1) % 32) La.length sa2 w1 (qO_rd (h1.holds (qO ba ((fa + 1) % 32) sa2 La) (by (repeat (first | exact mH _ _ | apply mT)))))) h1))
              )
            all_goals (refine At.stage_same (fun _ h => St.sub h (by repeat (first | exact List.Sublist.refl _ | apply List.Sublist.cons_cons | apply List.Sublist.cons))) ?_))
          all_goals (
            apply DW.quiet [10, 11, 12, 13, 14, 15, 16, 17, 18]
            · decide +kernel
            · first | exact fun _ h => h | exact fun _ h => St.sub h (by repeat (first | exact List.Sublist.refl _ | apply List.Sublist.cons_cons | apply List.Sublist.cons))
            repeat' (
              first
              | (apply yp; iterate 3 exact rfl)
              | (apply QL.ev; exact rfl
                 · first
                   | (apply Ev.load_own; (· exact rfl); (· repeat (first | exact mH _ _ | apply mT)); exact rfl)
                   | (apply Ev.load_agg; (· exact rfl); (· repeat (first | exact mH _ _ | apply mT)); exact rfl)
                   | (apply Ev.load_rdq; (· exact rfl); (· repeat (first | exact mH _ _ | apply mT)); iterate 2 exact rfl)
                   | (apply Ev.load_ardq; (· exact rfl); (· repeat (first | exact mH _ _ | apply mT)); exact rfl)
                   | (apply Ev.fieldAddr; exact rfl)
                   | (apply Ev.len; exact rfl)
                   | (apply EqOf.eq; exact rfl)
                   | (apply EqOf.ne; exact rfl)
                   | (apply Ev.conv; exact rfl)
                   | (apply Ev.buildN; exact rfl)
                   | (apply Ev.shr; (iterate 2 exact rfl); first | decide | omega)
                   | (apply Ev.shl; (iterate 2 exact rfl); first | decide | omega)
                 · exact rfl)
              | (apply QL.evg; (iterate 3 exact rfl); (· first | (apply Ev.sub; (· exact rfl); (· exact rfl); (· omega); (· omega)) | (apply Ev.indexAddr; (· exact rfl); (· exact rfl); (· omega); (· omega)) | (apply Ev.load_agg_at (cs := may[k].row); (· exact rfl); (· exact rfl); (· intro w' hw'; exact rd_row MsgA.row_len (ownsRow_rd (hw'.holds (mS (some ⟨bx, ox, none⟩) cm may) (by (repeat (first | exact mH _ _ | apply mT))))) hkl (by omega)))); (· exact rfl))
              | (apply yq; iterate 5 exact rfl)
              | (apply QL.evg; iterate 3 exact rfl
                 · first
                   | (apply Ev.load_own; (· exact rfl); (· repeat (first | exact mH _ _ | apply mT)); exact rfl)
                   | (apply Ev.load_agg; (· exact rfl); (· repeat (first | exact mH _ _ | apply mT)); exact rfl)
                   | (apply Ev.load_rdq; (· exact rfl); (· repeat (first | exact mH _ _ | apply mT)); iterate 2 exact rfl)
                   | (apply Ev.load_ardq; (· exact rfl); (· repeat (first | exact mH _ _ | apply mT)); exact rfl)
                   | (apply Ev.fieldAddr; exact rfl)
                   | (apply Ev.len; exact rfl)
                   | (apply EqOf.eq; exact rfl)
                   | (apply EqOf.ne; exact rfl)
                   | (apply Ev.conv; exact rfl)
                   | (apply Ev.buildN; exact rfl)
                   | (apply Ev.shr; (iterate 2 exact rfl); first | decide | omega)
                   | (apply Ev.shl; (iterate 2 exact rfl); first | decide | omega)
                 · exact rfl)
              | (apply yn; iterate 4 exact rfl)
              | ((apply QL.split; (· exact rfl); (· exact rfl); (· exact rfl)); all_goals (intro hc; try simp only [decide_eq_true_eq, decide_eq_false_iff_not, Bool.not_eq_true', Bool.not_eq_false', Bool.not_eq_true, Bool.not_eq_false, Bool.not_true, Bool.not_false, Int.not_lt, Int.not_le, List.cons.injEq, and_true, beq_iff_eq, beq_eq_false_iff_ne] at hc; try (exfalso; first | contradiction | omega)))
              | apply QL.nil
              )
            all_goals (show DW _ _ _ _ _ _ _ _))
          all_goals (
            apply DW.loud 19
            · exact rfl
            · decide +kernel
            repeat' (
              first
              | (apply kg; iterate 2 exact rfl)
              | (apply kG; iterate 3 exact rfl)
              | apply kM
              | (
                first
                | (apply kp; iterate 2 exact rfl)
                | (apply ko; (· exact rfl); (· repeat (first | exact mH _ _ | apply mT)); iterate 2 exact rfl)
                | (apply ka; (· exact rfl); (· repeat (first | exact mH _ _ | apply mT)); iterate 2 exact rfl)
                | (apply kL; (iterate 3 exact rfl); (· repeat (first | exact BS.nil _ | (apply BS.int; exact rfl) | (apply BS.ptr; exact rfl) | (apply BS.slice; exact rfl) | (apply BS.agg; iterate 2 exact rfl))); intro _)
                | (apply kT; (iterate 2 exact rfl); (· repeat (first | exact sH _ _ _ | apply sT)); iterate 2 exact rfl)
                | (apply kS; (iterate 2 exact rfl); (· repeat (first | exact sH _ _ _ | apply sT)); exact rfl)
                | (apply kB; (iterate 2 exact rfl); intro _)
                | (apply kA; exact rfl; intro _)
                )
              | (apply kq; (· exact rfl); (· intro w1 h1; have hq := CallsTo.q (c20 x.m y.m x.a y.a x.c y.c w1 (h1.rd_of_own (by (repeat (first | exact mH _ _ | apply mT)))) (h1.rd_of_own (by (repeat (first | exact mH _ _ | apply mT)))) hxm) h1; rw [show sameB x.m y.m = true by rw [mb.1]; exact sameB_self _] at hq; show CallsTo Try.prog 20 [x.m.val x.a x.c, y.m.val y.a y.c] w1 _; exact hq))
              | (apply kq; (· exact rfl); (· intro w1 h1; have hq := CallsTo.q (c20 x.m may[k].m x.a may[k].a x.c may[k].c w1 (h1.rd_of_own (by (repeat (first | exact mH _ _ | apply mT)))) (h1.oldRd (hRm _ (List.getElem_mem hkl)).hr) hxm) h1; rw [show sameB x.m may[k].m = true by rw [ma.1]; exact sameB_self _] at hq; show CallsTo Try.prog 20 [x.m.val x.a x.c, may[k].m.val may[k].a may[k].c] w1 _; exact hq))
              | (apply kq; (· exact rfl); (· intro w1 h1; exact CallsTo.q (c46 ba ((fa + 1) % 32) La.length sa2 w1 (qO_rd (h1.holds (qO ba ((fa + 1) % 32) sa2 La) (by (repeat (first | exact mH _ _ | apply mT)))))) h1))
              )
            all_goals (refine At.stage_same (fun _ h => St.sub h (by repeat (first | exact List.Sublist.refl _ | apply List.Sublist.cons_cons | apply List.Sublist.cons))) ?_))
          all_goals (
            apply DW.quiet [20, 21, 22]
            · decide +kernel
            · first | exact fun _ h => h | exact fun _ h => St.sub h (by repeat (first | exact List.Sublist.refl _ | apply List.Sublist.cons_cons | apply List.Sublist.cons))
            repeat' (
              first
              | (apply yp; iterate 3 exact rfl)
              | (apply QL.ev; exact rfl
                 · first
                   | (apply Ev.load_own; (· exact rfl); (· repeat (first | exact mH _ _ | apply mT)); exact rfl)
                   | (apply Ev.load_agg; (· exact rfl); (· repeat (first | exact mH _ _ | apply mT)); exact rfl)
                   | (apply Ev.load_rdq; (· exact rfl); (· repeat (first | exact mH _ _ | apply mT)); iterate 2 exact rfl)
                   | (apply Ev.load_ardq; (· exact rfl); (· repeat (first | exact mH _ _ | apply mT)); exact rfl)
                   | (apply Ev.fieldAddr; exact rfl)
                   | (apply Ev.len; exact rfl)
                   | (apply EqOf.eq; exact rfl)
                   | (apply EqOf.ne; exact rfl)
                   | (apply Ev.conv; exact rfl)
                   | (apply Ev.buildN; exact rfl)
                   | (apply Ev.shr; (iterate 2 exact rfl); first | decide | omega)
                   | (apply Ev.shl; (iterate 2 exact rfl); first | decide | omega)
                 · exact rfl)
              | (apply QL.evg; (iterate 3 exact rfl); (· first | (apply Ev.sub; (· exact rfl); (· exact rfl); (· omega); (· omega)) | (apply Ev.indexAddr; (· exact rfl); (· exact rfl); (· omega); (· omega)) | (apply Ev.load_agg_at (cs := may[k].row); (· exact rfl); (· exact rfl); (· intro w' hw'; exact rd_row MsgA.row_len (ownsRow_rd (hw'.holds (mS (some ⟨bx, ox, none⟩) cm may) (by (repeat (first | exact mH _ _ | apply mT))))) hkl (by omega)))); (· exact rfl))
              | (apply yq; iterate 5 exact rfl)
              | (apply QL.evg; iterate 3 exact rfl
                 · first
                   | (apply Ev.load_own; (· exact rfl); (· repeat (first | exact mH _ _ | apply mT)); exact rfl)
                   | (apply Ev.load_agg; (· exact rfl); (· repeat (first | exact mH _ _ | apply mT)); exact rfl)
                   | (apply Ev.load_rdq; (· exact rfl); (· repeat (first | exact mH _ _ | apply mT)); iterate 2 exact rfl)
                   | (apply Ev.load_ardq; (· exact rfl); (· repeat (first | exact mH _ _ | apply mT)); exact rfl)
                   | (apply Ev.fieldAddr; exact rfl)
                   | (apply Ev.len; exact rfl)
                   | (apply EqOf.eq; exact rfl)
                   | (apply EqOf.ne; exact rfl)
                   | (apply Ev.conv; exact rfl)
                   | (apply Ev.buildN; exact rfl)
                   | (apply Ev.shr; (iterate 2 exact rfl); first | decide | omega)
                   | (apply Ev.shl; (iterate 2 exact rfl); first | decide | omega)
                 · exact rfl)
              | (apply yn; iterate 4 exact rfl)
              | ((apply QL.split; (· exact rfl); (· exact rfl); (· exact rfl)); all_goals (intro hc; try simp only [decide_eq_true_eq, decide_eq_false_iff_not, Bool.not_eq_true', Bool.not_eq_false', Bool.not_eq_true, Bool.not_eq_false, Bool.not_true, Bool.not_false, Int.not_lt, Int.not_le, List.cons.injEq, and_true, beq_iff_eq, beq_eq_false_iff_ne] at hc; try (exfalso; first | contradiction | omega)))
              | apply QL.nil
              )
            all_goals (show DW _ _ _ _ _ _ _ _))
          all_goals (
            apply DW.loud 23
            · exact rfl
            · decide +kernel
            repeat' (
              first
              | (apply kg; iterate 2 exact rfl)
              | (apply kG; iterate 3 exact rfl)
              | apply kM
              | (
                first
                | (apply kp; iterate 2 exact rfl)
                | (apply ko; (· exact rfl); (· repeat (first | exact mH _ _ | apply mT)); iterate 2 exact rfl)
                | (apply ka; (· exact rfl); (· repeat (first | exact mH _ _ | apply mT)); iterate 2 exact rfl)
                | (apply kL; (iterate 3 exact rfl); (· repeat (first | exact BS.nil _ | (apply BS.int; exact rfl) | (apply BS.ptr; exact rfl) | (apply BS.slice; exact rfl) | (apply BS.agg; iterate 2 exact rfl))); intro _)
                | (apply kT; (iterate 2 exact rfl); (· repeat (first | exact sH _ _ _ | apply sT)); iterate 2 exact rfl)
                | (apply kS; (iterate 2 exact rfl); (· repeat (first | exact sH _ _ _ | apply sT)); exact rfl)
                | (apply kB; (iterate 2 exact rfl); intro _)
                | (apply kA; exact rfl; intro _)
                )
              | (apply kq; (· exact rfl); (· intro w1 h1; have hq := CallsTo.q (c20 x.m y.m x.a y.a x.c y.c w1 (h1.rd_of_own (by (repeat (first | exact mH _ _ | apply mT)))) (h1.rd_of_own (by (repeat (first | exact mH _ _ | apply mT)))) hxm) h1; rw [show sameB x.m y.m = true by rw [mb.1]; exact sameB_self _] at hq; show CallsTo Try.prog 20 [x.m.val x.a x.c, y.m.val y.a y.c] w1 _; exact hq))
              | (apply kq; (· exact rfl); (· intro w1 h1; have hq := CallsTo.q (c20 x.m may[k].m x.a may[k].a x.c may[k].c w1 (h1.rd_of_own (by (repeat (first | exact mH _ _ | apply mT)))) (h1.oldRd (hRm _ (List.getElem_mem hkl)).hr) hxm) h1; rw [show sameB x.m may[k].m = true by rw [ma.1]; exact sameB_self _] at hq; show CallsTo Try.prog 20 [x.m.val x.a x.c, may[k].m.val may[k].a may[k].c] w1 _; exact hq))
              | (apply kq; (· exact rfl); (· intro w1 h1; exact CallsTo.q (c46 ba ((fa + 1) % 32) La.length sa2 w1 (qO_rd (h1.holds (qO ba ((fa + 1) % 32) sa2 La) (by (repeat (first | exact mH _ _ | apply mT)))))) h1))
              )
            all_goals (refine At.stage_same (fun _ h => St.sub h (by repeat (first | exact List.Sublist.refl _ | apply List.Sublist.cons_cons | apply List.Sublist.cons))) ?_))
          all_goals (
            apply DW.quiet [24, 25]
            · decide +kernel
            · first | exact fun _ h => h | exact fun _ h => St.sub h (by repeat (first | exact List.Sublist.refl _ | apply List.Sublist.cons_cons | apply List.Sublist.cons))
            repeat' (
              first
              | (apply yp; iterate 3 exact rfl)
              | (apply QL.ev; exact rfl
                 · first
                   | (apply Ev.load_own; (· exact rfl); (· repeat (first | exact mH _ _ | apply mT)); exact rfl)
                   | (apply Ev.load_agg; (· exact rfl); (· repeat (first | exact mH _ _ | apply mT)); exact rfl)
                   | (apply Ev.load_rdq; (· exact rfl); (· repeat (first | exact mH _ _ | apply mT)); iterate 2 exact rfl)
                   | (apply Ev.load_ardq; (· exact rfl); (· repeat (first | exact mH _ _ | apply mT)); exact rfl)
                   | (apply Ev.fieldAddr; exact rfl)
                   | (apply Ev.len; exact rfl)
                   | (apply EqOf.eq; exact rfl)
                   | (apply EqOf.ne; exact rfl)
                   | (apply Ev.conv; exact rfl)
                   | (apply Ev.buildN; exact rfl)
                   | (apply Ev.shr; (iterate 2 exact rfl); first | decide | omega)
                   | (apply Ev.shl; (iterate 2 exact rfl); first | decide | omega)
                 · exact rfl)
              | (apply QL.evg; (iterate 3 exact rfl); (· first | (apply Ev.sub; (· exact rfl); (· exact rfl); (· omega); (· omega)) | (apply Ev.indexAddr; (· exact rfl); (· exact rfl); (· omega); (· omega)) | (apply Ev.load_agg_at (cs := may[k].row); (· exact rfl); (· exact rfl); (· intro w' hw'; exact rd_row MsgA.row_len (ownsRow_rd (hw'.holds (mS (some ⟨bx, ox, none⟩) cm may) (by (repeat (first | exact mH _ _ | apply mT))))) hkl (by omega)))); (· exact rfl))
              | (apply yq; iterate 5 exact rfl)
              | (apply QL.evg; iterate 3 exact rfl
                 · first
                   | (apply Ev.load_own; (· exact rfl); (· repeat (first | exact mH _ _ | apply mT)); exact rfl)
                   | (apply Ev.load_agg; (· exact rfl); (· repeat (first | exact mH _ _ | apply mT)); exact rfl)
                   | (apply Ev.load_rdq; (· exact rfl); (· repeat (first | exact mH _ _ | apply mT)); iterate 2 exact rfl)
                   | (apply Ev.load_ardq; (· exact rfl); (· repeat (first | exact mH _ _ | apply mT)); exact rfl)
                   | (apply Ev.fieldAddr; exact rfl)
                   | (apply Ev.len; exact rfl)
                   | (apply EqOf.eq; exact rfl)
                   | (apply EqOf.ne; exact rfl)
                   | (apply Ev.conv; exact rfl)
                   | (apply Ev.buildN; exact rfl)
                   | (apply Ev.shr; (iterate 2 exact rfl); first | decide | omega)
                   | (apply Ev.shl; (iterate 2 exact rfl); first | decide | omega)
                 · exact rfl)
              | (apply yn; iterate 4 exact rfl)
              | ((apply QL.split; (· exact rfl); (· exact rfl); (· exact rfl)); all_goals (intro hc; try simp only [decide_eq_true_eq, decide_eq_false_iff_not, Bool.not_eq_true', Bool.not_eq_false', Bool.not_eq_true, Bool.not_eq_false, Bool.not_true, Bool.not_false, Int.not_lt, Int.not_le, List.cons.injEq, and_true, beq_iff_eq, beq_eq_false_iff_ne] at hc; try (exfalso; first | contradiction | omega)))
              | apply QL.nil
              )
            all_goals (show DW _ _ _ _ _ _ _ _))
          all_goals (first | (apply DW.done_thn; (· decide +kernel)) | (apply DW.done; (· decide +kernel)))
          repeat' (
            first
            | (
              first
              | (apply kp; iterate 2 exact rfl)
              | apply ja | apply jb | apply jg | apply jj | (apply je; exact rfl) | (apply jf; exact rfl) | apply jd | apply jh | apply ji | (apply jc; kernel_rfl) | apply jk | apply jl | apply jm | apply jn | apply jo | (apply jp; exact rfl) | apply jq | apply jr | apply js | apply jt | apply ju | apply jv | apply jw | apply kN | apply kM
              | (apply kf; iterate 2 exact rfl)
              | (apply ko; (· exact rfl); (· repeat (first | exact mH _ _ | apply mT)); iterate 2 exact rfl)
              | (apply ka; (· exact rfl); (· repeat (first | exact mH _ _ | apply mT)); iterate 2 exact rfl)
              | (apply kr; (· exact rfl); (· repeat (first | exact mH _ _ | apply mT)); iterate 3 exact rfl)
              | (apply ks; (· exact rfl); (· repeat (first | exact mH _ _ | apply mT)); iterate 2 exact rfl)
              | (apply kn; iterate 2 exact rfl)
              | (apply ke; iterate 2 exact rfl)
              | (apply kx; iterate 2 exact rfl)
              | (apply kc; iterate 2 exact rfl)
              | (apply kb; iterate 2 exact rfl)
              | (apply kg; iterate 2 exact rfl)
              | (apply kG; iterate 3 exact rfl)
              | (apply kB; (iterate 2 exact rfl); intro _)
              | (apply kA; exact rfl; intro _)
              | (apply kL; (iterate 3 exact rfl); (· repeat (first | exact BS.nil _ | (apply BS.int; exact rfl) | (apply BS.ptr; exact rfl) | (apply BS.slice; exact rfl) | (apply BS.agg; iterate 2 exact rfl))); intro _)
              | (apply kT; (iterate 2 exact rfl); (· repeat (first | exact sH _ _ _ | apply sT)); iterate 2 exact rfl)
              | (apply kS; (iterate 2 exact rfl); (· repeat (first | exact sH _ _ _ | apply sT)); exact rfl)
              | (apply kh; (iterate 2 exact rfl); (first | decide | omega); exact rfl)
              | (apply kl; (iterate 2 exact rfl); (first | decide | omega); exact rfl)
              )
            | ((first | (apply kR; (· exact rfl); (· exact rfl)) | (apply kQ; (· exact rfl))); all_goals (intro hc; try simp only [decide_eq_true_eq, decide_eq_false_iff_not, Bool.not_eq_true', Bool.not_eq_false', Bool.not_eq_true, Bool.not_eq_false, Bool.not_true, Bool.not_false, Int.not_lt, Int.not_le, List.cons.injEq, and_true, beq_iff_eq, beq_eq_false_iff_ne] at hc; try (exfalso; first | contradiction | omega)))
            )
          apply At.again ((((fa + 1) % 32, sa2, La), (fb + 1) % 32, sb2, Lb))
          · exact ⟨ra2, rb2, by show La.length ≤ _; omega, by show La.map MsgA.m = (may.drop (may.length - La.length)).map MsgA.m; rw [show may.length - La.length = k + 1 by omega]; exact ma.2, mb.2⟩
          · (repeat (first | exact Out.refl _ _ | exact Out.mix | (apply Out.upd; (· exact rfl)) | (apply Out.updL; (· exact rfl)) | (apply Out.mixs; (· exact rfl))))
          · exact trivial
          · exact fun w' hw' => (front (front hw' 1 rfl rfl) 3 rfl rfl).sub (by repeat (first | exact List.Sublist.refl _ | apply List.Sublist.cons_cons | apply List.Sublist.cons))
          · show La.length < (x :: La).length
            simp)
theorem opn_msgs : Opn Try.prog 69 (fun w cs => ∃ (a : Option Addr) (c : Nat) (l : List MsgA), cs = [.slice a l.length c] ∧ Rd w a (l.flatMap MsgA.row) ∧ (∀ x ∈ l, MR w x) ∧ (a = none → c = 0) ∧ l.length ≤ c ∧ l.length ≤ 140737488351232) := by
  refine (opn_slice Try.underlying69 (sz := 13) (by_ := 120) (by kernel_rfl) (by omega) (by kernel_rfl) opn_msg).mono ?_
  rintro w cs ⟨a, len, cap, css, rfl, rfl, hg, hr, hz, hc, hm⟩
  obtain ⟨l, h1, h2, h3⟩ := Go.Hb.rows_of (f := MsgA.row) (R := fun x => MR w x) css fun c hc => by
    obtain ⟨m, a, c', e, h1, h2, h3, h4, _⟩ := (hg c hc).1
    exact ⟨⟨m, a, c'⟩, e, h1, h3, by show m.body.length ≤ _; omega, h2⟩
  rw [h1] at hr
  have hm : css.length * 120 ≤ 140737488351232 := hm
  exact ⟨a, cap, l, by rw [h2], hr, h3, hz, by omega, by omega⟩
end Go.Proofs.Ytomlgnncncjmaaa
