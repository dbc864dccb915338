/-
  Messages come out as they went in, in that order: the law.
-/
import Derived.Test.YtomlgnncncjmaaaQ6
-- all by hand
namespace Go.Proofs.Ytomlgnncncjmaaa
open Go.Hb Go.ChangeShapes Go.WideShapes
attribute [local irreducible] LR CW At Ev thn blk finK noG again CallsTo DW QL dnext TW DP
set_option linter.unusedSimpArgs false
set_option linter.unusedVariables false
set_option maxRecDepth 100000

set_option maxHeartbeats 8000000 in
theorem c11 (al : Option Addr) (cl : Nat) (l : List DeedA) (w : World) (hr : Rd w al (l.flatMap DeedA.row)) (hD : ∀ x ∈ l, DR w x) (hm : l.length ≤ 140737488351232) :
    CallsTo Try.prog 11 [.slice al l.length cl] w fun v w' => v = .bool true ∧ Grew w w' := by
  refine go_in (n := 131) (St.rd1 hr) Try.func11 rfl rfl ?_
  repeat' (
    first
    | (
      first
      | (apply kp; iterate 2 exact rfl)
      | apply ja | apply jb | apply jg | apply jj | (apply je; exact rfl) | (apply jf; exact rfl) | apply jd | apply jh | apply ji | (apply jc; kernel_rfl) | apply jk | apply jl | apply jm | apply jn | apply jo | (apply jp; exact rfl) | apply jq | apply jr | apply js | apply jt | apply ju | apply jv | apply jw | apply kN | apply kM
      | (apply kf; iterate 2 exact rfl)
      | (apply ko; (· exact rfl); (· repeat (first | exact mH _ _ | apply mT)); iterate 2 exact rfl)
      | (apply ka; (· exact rfl); (· repeat (first | exact mH _ _ | apply mT)); iterate 2 exact rfl)
      | (apply kr; (· exact rfl); (· repeat (first | exact mH _ _ | apply mT)); iterate 3 exact rfl)
      | (apply ks; (· exact rfl); (· repeat (first | exact mH _ _ | apply mT)); iterate 2 exact rfl)
      | (apply kn; iterate 2 exact rfl)
      | (apply ke; iterate 2 exact rfl)
      | (apply kx; iterate 2 exact rfl)
      | (apply kc; iterate 2 exact rfl)
      | (apply kb; iterate 2 exact rfl)
      | (apply kg; iterate 2 exact rfl)
      | (apply kG; iterate 3 exact rfl)
      | (apply kB; (iterate 2 exact rfl); intro _)
      | (apply kA; exact rfl; intro _)
      | (apply kL; (iterate 3 exact rfl); (· repeat (first | exact BS.nil _ | (apply BS.int; exact rfl) | (apply BS.ptr; exact rfl) | (apply BS.slice; exact rfl) | (apply BS.agg; iterate 2 exact rfl))); intro _)
      | (apply kT; (iterate 2 exact rfl); (· repeat (first | exact sH _ _ _ | apply sT)); iterate 2 exact rfl)
      | (apply kS; (iterate 2 exact rfl); (· repeat (first | exact sH _ _ _ | apply sT)); exact rfl)
      | (apply kh; (iterate 2 exact rfl); (first | decide | omega); exact rfl)
      | (apply kl; (iterate 2 exact rfl); (first | decide | omega); exact rfl)
      )
    | (apply kq; (· exact rfl); (· intro w1 h1; exact CallsTo.q (c50 w1) h1))
    | ((first | (apply kR; (· exact rfl); (· exact rfl)) | (apply kQ; (· exact rfl))); all_goals (intro hc; try simp only [decide_eq_true_eq, decide_eq_false_iff_not, Bool.not_eq_true', Bool.not_eq_false', Bool.not_eq_true, Bool.not_eq_false, Bool.not_true, Bool.not_false, Int.not_lt, Int.not_le, List.cons.injEq, and_true, beq_iff_eq, beq_eq_false_iff_ne] at hc; try (exfalso; first | contradiction | omega)))
    )
  apply LR.call
  · exact rfl
  intro w1 h1
  refine (c38 w1).mono ?_
  rintro v w2 ⟨b, rfl, hn⟩
  have h2 := ((h1.got hn (Asrt.dep_own _ _)).bun_nil MsgA.dep).swap.join rfl rfl
  refine LR.back h2 ?_
  clear h2 h1 hn
  repeat' (
    first
    | (
      first
      | (apply kp; iterate 2 exact rfl)
      | apply ja | apply jb | apply jg | apply jj | (apply je; exact rfl) | (apply jf; exact rfl) | apply jd | apply jh | apply ji | (apply jc; kernel_rfl) | apply jk | apply jl | apply jm | apply jn | apply jo | (apply jp; exact rfl) | apply jq | apply jr | apply js | apply jt | apply ju | apply jv | apply jw | apply kN | apply kM
      | (apply kf; iterate 2 exact rfl)
      | (apply ko; (· exact rfl); (· repeat (first | exact mH _ _ | apply mT)); iterate 2 exact rfl)
      | (apply ka; (· exact rfl); (· repeat (first | exact mH _ _ | apply mT)); iterate 2 exact rfl)
      | (apply kr; (· exact rfl); (· repeat (first | exact mH _ _ | apply mT)); iterate 3 exact rfl)
      | (apply ks; (· exact rfl); (· repeat (first | exact mH _ _ | apply mT)); iterate 2 exact rfl)
      | (apply kn; iterate 2 exact rfl)
      | (apply ke; iterate 2 exact rfl)
      | (apply kx; iterate 2 exact rfl)
      | (apply kc; iterate 2 exact rfl)
      | (apply kb; iterate 2 exact rfl)
      | (apply kg; iterate 2 exact rfl)
      | (apply kG; iterate 3 exact rfl)
      | (apply kB; (iterate 2 exact rfl); intro _)
      | (apply kA; exact rfl; intro _)
      | (apply kL; (iterate 3 exact rfl); (· repeat (first | exact BS.nil _ | (apply BS.int; exact rfl) | (apply BS.ptr; exact rfl) | (apply BS.slice; exact rfl) | (apply BS.agg; iterate 2 exact rfl))); intro _)
      | (apply kT; (iterate 2 exact rfl); (· repeat (first | exact sH _ _ _ | apply sT)); iterate 2 exact rfl)
      | (apply kS; (iterate 2 exact rfl); (· repeat (first | exact sH _ _ _ | apply sT)); exact rfl)
      | (apply kh; (iterate 2 exact rfl); (first | decide | omega); exact rfl)
      | (apply kl; (iterate 2 exact rfl); (first | decide | omega); exact rfl)
      )
    | ((first | (apply kR; (· exact rfl); (· exact rfl)) | (apply kQ; (· exact rfl))); all_goals (intro hc; try simp only [decide_eq_true_eq, decide_eq_false_iff_not, Bool.not_eq_true', Bool.not_eq_false', Bool.not_eq_true, Bool.not_eq_false, Bool.not_true, Bool.not_false, Int.not_lt, Int.not_le, List.cons.injEq, and_true, beq_iff_eq, beq_eq_false_iff_ne] at hc; try (exfalso; first | contradiction | omega)))
    )
  apply CW.loop [2, 4, 5, 6, 7, 8, 9, 10, 11, 15, 16, 17, 18, 19, 20, 21, 22, 23, 24, 25, 26, 27, 28, 29, 30, 31, 32, 33, 34, 35, 36, 37, 38, 39, 40, 41, 42, 43, 44, 45, 46, 47, 48, 49, 50, 51, 52, 53, 54, 55, 56, 57, 58, 59, 60, 61, 62, 63, 64, 65, 66, 67, 68, 69, 70, 71, 72, 73, 74, 75, 76, 77, 78, 79, 80, 81, 82, 83, 84, 85, 86, 87, 88, 89, 90, 91, 92, 93, 94, 95, 96, 97, 98, 99, 100, 101, 102, 103, 104, 105, 106, 107, 108, 109, 110, 111, 112, 113, 114, 115, 116, 117, 118, 119, 120, 121, 122, 123, 124, 125, 126, 127, 128, 129, 130] (fun s : Nat × Nat × List MsgA × List MsgA × Option Addr × Nat × List MsgA => s.1 ≤ l.length ∧ s.1 ≤ 200 ∧ QRep s.2.1 s.2.2.1 s.2.2.2.1 ∧ s.2.2.2.1.map MsgA.m = s.2.2.2.2.2.2.map MsgA.m ∧ ∀ x ∈ s.2.2.2.2.2.2, Byt x.m.body ∧ x.m.body.length ≤ 140737488355328) (fun s => [(5, Value.int .i64 (s.1 : Int)), (4, .slice s.2.2.2.2.1 s.2.2.2.2.2.2.length s.2.2.2.2.2.1)])
    (fun s => St w NoF [qO b s.2.1 s.2.2.1 s.2.2.2.1, odB s.2.2.2.2.1 s.2.2.2.2.2.1 s.2.2.2.2.2.2, bunB s.2.2.2.2.2.2, rdA al (l.flatMap DeedA.row)]) (fun s => l.length - s.1)
  · intro w' hw'
    refine ⟨(0, 0, List.replicate 32 zeroA, [], none, 0, []), ⟨by simp, by simp, QRep.start, rfl, by simp⟩, ⟨rfl, rfl, trivial⟩, ?_⟩
    have h2 := (hw'.bun_nil MsgA.dep).nilsl 28 13
    exact front (h2.osl_odl (sH _ _ _)) 2 rfl rfl
  rintro ⟨i, f, sl, L, ab, cb, bl⟩ g ⟨hi, h200, rr, hm1, hb⟩
  simp only at hi h200 rr hm1 hb ⊢
  have hq : L.length = bl.length := by have := congrArg List.length hm1; simpa using this
  have hL := rr.hL
  by_cases hlt : i < l.length ∧ i < 200
  · obtain ⟨hl, hl2⟩ := hlt
    obtain ⟨ba, oa, rfl⟩ := hr.form (rows_ne DeedA.row_len (by omega) hl)
    have dr := hD _ (List.getElem_mem hl)
    obtain ⟨⟨xa, xc, ms, tk⟩, hX⟩ : ∃ X, l[i] = X := ⟨_, rfl⟩
    rw [hX] at dr
    have drm : ms.length * 120 ≤ 140737488351232 := dr.hm
    have ldp : ∀ w', Rd w' (some ⟨ba, oa, none⟩) (l.flatMap DeedA.row) → ∀ q, q = oa + i * 2 → w'.cell? ⟨ba, q, none⟩ = some (.slice xa ms.length xc) := by
      intro w' hw' q hq
      exact row_cell DeedA.row_len hw' hl 0 (by rw [hX]; rfl) (by omega)
    have ldt : ∀ w', Rd w' (some ⟨ba, oa, none⟩) (l.flatMap DeedA.row) → ∀ q, q = oa + i * 2 + 1 → w'.cell? ⟨ba, q, none⟩ = some (.int .i64 tk) := by
      intro w' hw' q hq
      exact row_cell DeedA.row_len hw' hl 1 (by rw [hX]; rfl) (by omega)
    repeat' (
      first
      | (
        first
        | (apply kp; iterate 2 exact rfl)
        | apply ja | apply jb | apply jg | apply jj | (apply je; exact rfl) | (apply jf; exact rfl) | apply jd | apply jh | apply ji | (apply jc; kernel_rfl) | apply jk | apply jl | apply jm | apply jn | apply jo | (apply jp; exact rfl) | apply jq | apply jr | apply js | apply jt | apply ju | apply jv | apply jw | apply kN | apply kM
        | (apply kf; iterate 2 exact rfl)
        | (apply ko; (· exact rfl); (· repeat (first | exact mH _ _ | apply mT)); iterate 2 exact rfl)
        | (apply ka; (· exact rfl); (· repeat (first | exact mH _ _ | apply mT)); iterate 2 exact rfl)
        | (apply kr; (· exact rfl); (· repeat (first | exact mH _ _ | apply mT)); iterate 3 exact rfl)
        | (apply ks; (· exact rfl); (· repeat (first | exact mH _ _ | apply mT)); iterate 2 exact rfl)
        | (apply kn; iterate 2 exact rfl)
        | (apply ke; iterate 2 exact rfl)
        | (apply kx; iterate 2 exact rfl)
        | (apply kc; iterate 2 exact rfl)
        | (apply kb; iterate 2 exact rfl)
        | (apply kg; iterate 2 exact rfl)
        | (apply kG; iterate 3 exact rfl)
        | (apply kB; (iterate 2 exact rfl); intro _)
        | (apply kA; exact rfl; intro _)
        | (apply kL; (iterate 3 exact rfl); (· repeat (first | exact BS.nil _ | (apply BS.int; exact rfl) | (apply BS.ptr; exact rfl) | (apply BS.slice; exact rfl) | (apply BS.agg; iterate 2 exact rfl))); intro _)
        | (apply kT; (iterate 2 exact rfl); (· repeat (first | exact sH _ _ _ | apply sT)); iterate 2 exact rfl)
        | (apply kS; (iterate 2 exact rfl); (· repeat (first | exact sH _ _ _ | apply sT)); exact rfl)
        | (apply kh; (iterate 2 exact rfl); (first | decide | omega); exact rfl)
        | (apply kl; (iterate 2 exact rfl); (first | decide | omega); exact rfl)
        )
      | ((first | (apply kR; (· exact rfl); (· exact rfl)) | (apply kQ; (· exact rfl))); all_goals (intro hc; try simp only [decide_eq_true_eq, decide_eq_false_iff_not, Bool.not_eq_true', Bool.not_eq_false', Bool.not_eq_true, Bool.not_eq_false, Bool.not_true, Bool.not_false, Int.not_lt, Int.not_le, List.cons.injEq, and_true, beq_iff_eq, beq_eq_false_iff_ne] at hc; try (exfalso; first | contradiction | omega)))
      )
    apply CW.loop [6, 7, 25, 26, 27, 28, 29, 30, 31, 32, 33, 34, 35, 36, 37, 38, 39, 40, 41, 42, 43, 44, 45, 46, 47] (fun k : Nat => k ≤ ms.length) (fun k => [(7, Value.int .i64 (k : Int)), (6, .bool (allok (ms.take k)))]) (fun _ => St w NoF [qO b f sl L, odB ab cb bl, bunB bl, rdA (some ⟨ba, oa, none⟩) (l.flatMap DeedA.row)]) (fun k => ms.length - k)
    · exact fun w' hw' => ⟨0, by simp, ⟨rfl, rfl, trivial⟩, hw'⟩
    rintro k g1 hk
    by_cases hkl : k < ms.length
    · obtain ⟨bx, ox, rfl⟩ := dr.hr.form (rows_ne MsgA.row_len (by omega) hkl)
      have hx := dr.hR _ (List.getElem_mem hkl)
      have hs := allok_succ hkl
      cases hmb : allok (ms.take k)
      · rw [hmb, Bool.false_and] at hs
        repeat' (
          first
          | (
            first
            | (apply kp; iterate 2 exact rfl)
            | apply ja | apply jb | apply jg | apply jj | (apply je; exact rfl) | (apply jf; exact rfl) | apply jd | apply jh | apply ji | (apply jc; kernel_rfl) | apply jk | apply jl | apply jm | apply jn | apply jo | (apply jp; exact rfl) | apply jq | apply jr | apply js | apply jt | apply ju | apply jv | apply jw | apply kN | apply kM
            | (apply kf; iterate 2 exact rfl)
            | (apply ko; (· exact rfl); (· repeat (first | exact mH _ _ | apply mT)); iterate 2 exact rfl)
            | (apply ka; (· exact rfl); (· repeat (first | exact mH _ _ | apply mT)); iterate 2 exact rfl)
            | (apply kr; (· exact rfl); (· repeat (first | exact mH _ _ | apply mT)); iterate 3 exact rfl)
            | (apply ks; (· exact rfl); (· repeat (first | exact mH _ _ | apply mT)); iterate 2 exact rfl)
            | (apply kn; iterate 2 exact rfl)
            | (apply ke; iterate 2 exact rfl)
            | (apply kx; iterate 2 exact rfl)
            | (apply kc; iterate 2 exact rfl)
            | (apply kb; iterate 2 exact rfl)
            | (apply kg; iterate 2 exact rfl)
            | (apply kG; iterate 3 exact rfl)
            | (apply kB; (iterate 2 exact rfl); intro _)
            | (apply kA; exact rfl; intro _)
            | (apply kL; (iterate 3 exact rfl); (· repeat (first | exact BS.nil _ | (apply BS.int; exact rfl) | (apply BS.ptr; exact rfl) | (apply BS.slice; exact rfl) | (apply BS.agg; iterate 2 exact rfl))); intro _)
            | (apply kT; (iterate 2 exact rfl); (· repeat (first | exact sH _ _ _ | apply sT)); iterate 2 exact rfl)
            | (apply kS; (iterate 2 exact rfl); (· repeat (first | exact sH _ _ _ | apply sT)); exact rfl)
            | (apply kh; (iterate 2 exact rfl); (first | decide | omega); exact rfl)
            | (apply kl; (iterate 2 exact rfl); (first | decide | omega); exact rfl)
            )
          | (apply LR.ev; (· apply Ev.indexAddr; (· exact rfl); (· exact rfl); (· first | omega | (dsimp only; omega)); (· first | omega | (dsimp only; omega))); (· exact rfl))
          | (apply LR.ev; (· apply Ev.load; (· exact rfl); (· intro w' hw'; first | (refine ldp w' (hw'.rd_of ?_) _ ?_; (· (repeat (first | exact mH _ _ | apply mT))); (· simp; done)) | (refine ldt w' (hw'.rd_of ?_) _ ?_; (· (repeat (first | exact mH _ _ | apply mT))); (· simp; done)))); (· exact rfl))
          | (apply LR.ev; (· apply Ev.add; (· exact rfl); (· exact rfl); (· first | omega | (dsimp only; omega)); (· first | omega | (dsimp only; omega))); (· exact rfl))
          | ((first | (apply kR; (· exact rfl); (· exact rfl)) | (apply kQ; (· exact rfl))); all_goals (intro hc; try simp only [decide_eq_true_eq, decide_eq_false_iff_not, Bool.not_eq_true', Bool.not_eq_false', Bool.not_eq_true, Bool.not_eq_false, Bool.not_true, Bool.not_false, Int.not_lt, Int.not_le, List.cons.injEq, and_true, beq_iff_eq, beq_eq_false_iff_ne] at hc; try (exfalso; first | contradiction | omega)))
          )
        apply At.again (k + 1)
        · show k + 1 ≤ _
          omega
        · (repeat (first | exact Out.refl _ _ | exact Out.mix | (apply Out.upd; (· exact rfl)) | (apply Out.updL; (· exact rfl)) | (apply Out.mixs; (· exact rfl))))
        · exact ⟨rfl, by rw [hs]; rfl, trivial⟩
        · exact fun w' hw' => hw'
        · show ms.length - (k + 1) < ms.length - k
          omega
      · rw [hmb, Bool.true_and] at hs
        repeat' (
          first
          | (
            first
            | (apply kp; iterate 2 exact rfl)
            | apply ja | apply jb | apply jg | apply jj | (apply je; exact rfl) | (apply jf; exact rfl) | apply jd | apply jh | apply ji | (apply jc; kernel_rfl) | apply jk | apply jl | apply jm | apply jn | apply jo | (apply jp; exact rfl) | apply jq | apply jr | apply js | apply jt | apply ju | apply jv | apply jw | apply kN | apply kM
            | (apply kf; iterate 2 exact rfl)
            | (apply ko; (· exact rfl); (· repeat (first | exact mH _ _ | apply mT)); iterate 2 exact rfl)
            | (apply ka; (· exact rfl); (· repeat (first | exact mH _ _ | apply mT)); iterate 2 exact rfl)
            | (apply kr; (· exact rfl); (· repeat (first | exact mH _ _ | apply mT)); iterate 3 exact rfl)
            | (apply ks; (· exact rfl); (· repeat (first | exact mH _ _ | apply mT)); iterate 2 exact rfl)
            | (apply kn; iterate 2 exact rfl)
            | (apply ke; iterate 2 exact rfl)
            | (apply kx; iterate 2 exact rfl)
            | (apply kc; iterate 2 exact rfl)
            | (apply kb; iterate 2 exact rfl)
            | (apply kg; iterate 2 exact rfl)
            | (apply kG; iterate 3 exact rfl)
            | (apply kB; (iterate 2 exact rfl); intro _)
            | (apply kA; exact rfl; intro _)
            | (apply kL; (iterate 3 exact rfl); (· repeat (first | exact BS.nil _ | (apply BS.int; exact rfl) | (apply BS.ptr; exact rfl) | (apply BS.slice; exact rfl) | (apply BS.agg; iterate 2 exact rfl))); intro _)
            | (apply kT; (iterate 2 exact rfl); (· repeat (first | exact sH _ _ _ | apply sT)); iterate 2 exact rfl)
            | (apply kS; (iterate 2 exact rfl); (· repeat (first | exact sH _ _ _ | apply sT)); exact rfl)
            | (apply kh; (iterate 2 exact rfl); (first | decide | omega); exact rfl)
            | (apply kl; (iterate 2 exact rfl); (first | decide | omega); exact rfl)
            )
          | (apply LR.ev; (· apply Ev.indexAddr; (· exact rfl); (· exact rfl); (· first | omega | (dsimp only; omega)); (· first | omega | (dsimp only; omega))); (· exact rfl))
          | (apply LR.ev; (· apply Ev.load; (· exact rfl); (· intro w' hw'; first | (refine ldp w' (hw'.rd_of ?_) _ ?_; (· (repeat (first | exact mH _ _ | apply mT))); (· simp; done)) | (refine ldt w' (hw'.rd_of ?_) _ ?_; (· (repeat (first | exact mH _ _ | apply mT))); (· simp; done)))); (· exact rfl))
          | (apply LR.ev; (· apply Ev.add; (· exact rfl); (· exact rfl); (· first | omega | (dsimp only; omega)); (· first | omega | (dsimp only; omega))); (· exact rfl))
          | (apply LR.ev; (· apply Ev.load_agg_at (cs := ms[k].row); (· exact rfl); (· exact rfl); (· intro w' hw'; exact rd_row MsgA.row_len (hw'.oldRd dr.hr) hkl (by simp))); (· exact rfl))
          | (apply kq; (· exact rfl); (· intro w1 h1; have hq := CallsTo.q (d17 ms[k].m ms[k].a ms[k].c w1 (h1.oldRd hx.hr) hx.hz hx.hm hx.hb) h1; show CallsTo Try.prog 17 [ms[k].m.val ms[k].a ms[k].c] w1 _; exact hq))
          | ((first | (apply kR; (· exact rfl); (· exact rfl)) | (apply kQ; (· exact rfl))); all_goals (intro hc; try simp only [decide_eq_true_eq, decide_eq_false_iff_not, Bool.not_eq_true', Bool.not_eq_false', Bool.not_eq_true, Bool.not_eq_false, Bool.not_true, Bool.not_false, Int.not_lt, Int.not_le, List.cons.injEq, and_true, beq_iff_eq, beq_eq_false_iff_ne] at hc; try (exfalso; first | contradiction | omega)))
          )
        apply At.again (k + 1)
        · show k + 1 ≤ _
          omega
        · (repeat (first | exact Out.refl _ _ | exact Out.mix | (apply Out.upd; (· exact rfl)) | (apply Out.updL; (· exact rfl)) | (apply Out.mixs; (· exact rfl))))
        · exact ⟨rfl, by rw [hs]; rfl, trivial⟩
        · exact fun w' hw' => hw'
        · show ms.length - (k + 1) < ms.length - k
          omega
    · rw [List.take_of_length_le (by omega)]
      repeat' (
        first
        | (
          first
          | (apply kp; iterate 2 exact rfl)
          | apply ja | apply jb | apply jg | apply jj | (apply je; exact rfl) | (apply jf; exact rfl) | apply jd | apply jh | apply ji | (apply jc; kernel_rfl) | apply jk | apply jl | apply jm | apply jn | apply jo | (apply jp; exact rfl) | apply jq | apply jr | apply js | apply jt | apply ju | apply jv | apply jw | apply kN | apply kM
          | (apply kf; iterate 2 exact rfl)
          | (apply ko; (· exact rfl); (· repeat (first | exact mH _ _ | apply mT)); iterate 2 exact rfl)
          | (apply ka; (· exact rfl); (· repeat (first | exact mH _ _ | apply mT)); iterate 2 exact rfl)
          | (apply kr; (· exact rfl); (· repeat (first | exact mH _ _ | apply mT)); iterate 3 exact rfl)
          | (apply ks; (· exact rfl); (· repeat (first | exact mH _ _ | apply mT)); iterate 2 exact rfl)
          | (apply kn; iterate 2 exact rfl)
          | (apply ke; iterate 2 exact rfl)
          | (apply kx; iterate 2 exact rfl)
          | (apply kc; iterate 2 exact rfl)
          | (apply kb; iterate 2 exact rfl)
          | (apply kg; iterate 2 exact rfl)
          | (apply kG; iterate 3 exact rfl)
          | (apply kB; (iterate 2 exact rfl); intro _)
          | (apply kA; exact rfl; intro _)
          | (apply kL; (iterate 3 exact rfl); (· repeat (first | exact BS.nil _ | (apply BS.int; exact rfl) | (apply BS.ptr; exact rfl) | (apply BS.slice; exact rfl) | (apply BS.agg; iterate 2 exact rfl))); intro _)
          | (apply kT; (iterate 2 exact rfl); (· repeat (first | exact sH _ _ _ | apply sT)); iterate 2 exact rfl)
          | (apply kS; (iterate 2 exact rfl); (· repeat (first | exact sH _ _ _ | apply sT)); exact rfl)
          | (apply kh; (iterate 2 exact rfl); (first | decide | omega); exact rfl)
          | (apply kl; (iterate 2 exact rfl); (first | decide | omega); exact rfl)
          )
        | (apply LR.ev; (· apply Ev.indexAddr; (· exact rfl); (· exact rfl); (· first | omega | (dsimp only; omega)); (· first | omega | (dsimp only; omega))); (· exact rfl))
        | (apply LR.ev; (· apply Ev.load; (· exact rfl); (· intro w' hw'; first | (refine ldp w' (hw'.rd_of ?_) _ ?_; (· (repeat (first | exact mH _ _ | apply mT))); (· simp; done)) | (refine ldt w' (hw'.rd_of ?_) _ ?_; (· (repeat (first | exact mH _ _ | apply mT))); (· simp; done)))); (· exact rfl))
        | ((first | (apply kR; (· exact rfl); (· exact rfl)) | (apply kQ; (· exact rfl))); all_goals (intro hc; try simp only [decide_eq_true_eq, decide_eq_false_iff_not, Bool.not_eq_true', Bool.not_eq_false', Bool.not_eq_true, Bool.not_eq_false, Bool.not_true, Bool.not_false, Int.not_lt, Int.not_le, List.cons.injEq, and_true, beq_iff_eq, beq_eq_false_iff_ne] at hc; try (exfalso; first | contradiction | omega)))
        )
      cases hok : allok ms
      · skip
        apply LR.call
        · exact rfl
        intro w1 h1
        have hh := put_deed (b := b) (first := f) (slots := sl) (L := L) (x := ⟨xa, xc, ms, tk⟩) h1 (by (repeat (first | exact mH _ _ | apply mT))) rr dr
        rw [qputE_bad (l := ms) hok] at hh
        refine CallsTo.mono hh ?_
        clear hh
        rintro v w2 ⟨sl1, L1, rfl, rr1, m1, st⟩
        have h2 := h1.one' st rfl (qO_dep _ _ _ _) (by (repeat (first | exact sH _ _ _ | apply sT)))
        refine LR.back h2 ?_
        clear h2 h1 st
        have hm1' : L1.map MsgA.m = bl.map MsgA.m := by rw [m1, ← hm1]; simp
        repeat' (
          first
          | (
            first
            | (apply kp; iterate 2 exact rfl)
            | apply ja | apply jb | apply jg | apply jj | (apply je; exact rfl) | (apply jf; exact rfl) | apply jd | apply jh | apply ji | (apply jc; kernel_rfl) | apply jk | apply jl | apply jm | apply jn | apply jo | (apply jp; exact rfl) | apply jq | apply jr | apply js | apply jt | apply ju | apply jv | apply jw | apply kN | apply kM
            | (apply kf; iterate 2 exact rfl)
            | (apply ko; (· exact rfl); (· repeat (first | exact mH _ _ | apply mT)); iterate 2 exact rfl)
            | (apply ka; (· exact rfl); (· repeat (first | exact mH _ _ | apply mT)); iterate 2 exact rfl)
            | (apply kr; (· exact rfl); (· repeat (first | exact mH _ _ | apply mT)); iterate 3 exact rfl)
            | (apply ks; (· exact rfl); (· repeat (first | exact mH _ _ | apply mT)); iterate 2 exact rfl)
            | (apply kn; iterate 2 exact rfl)
            | (apply ke; iterate 2 exact rfl)
            | (apply kx; iterate 2 exact rfl)
            | (apply kc; iterate 2 exact rfl)
            | (apply kb; iterate 2 exact rfl)
            | (apply kg; iterate 2 exact rfl)
            | (apply kG; iterate 3 exact rfl)
            | (apply kB; (iterate 2 exact rfl); intro _)
            | (apply kA; exact rfl; intro _)
            | (apply kL; (iterate 3 exact rfl); (· repeat (first | exact BS.nil _ | (apply BS.int; exact rfl) | (apply BS.ptr; exact rfl) | (apply BS.slice; exact rfl) | (apply BS.agg; iterate 2 exact rfl))); intro _)
            | (apply kT; (iterate 2 exact rfl); (· repeat (first | exact sH _ _ _ | apply sT)); iterate 2 exact rfl)
            | (apply kS; (iterate 2 exact rfl); (· repeat (first | exact sH _ _ _ | apply sT)); exact rfl)
            | (apply kh; (iterate 2 exact rfl); (first | decide | omega); exact rfl)
            | (apply kl; (iterate 2 exact rfl); (first | decide | omega); exact rfl)
            )
          | (apply LR.ev; (· apply Ev.indexAddr; (· exact rfl); (· exact rfl); (· first | omega | (dsimp only; omega)); (· first | omega | (dsimp only; omega))); (· exact rfl))
          | (apply LR.ev; (· apply Ev.load; (· exact rfl); (· intro w' hw'; first | (refine ldp w' (hw'.rd_of ?_) _ ?_; (· (repeat (first | exact mH _ _ | apply mT))); (· simp; done)) | (refine ldt w' (hw'.rd_of ?_) _ ?_; (· (repeat (first | exact mH _ _ | apply mT))); (· simp; done)))); (· exact rfl))
          | ((first | (apply kR; (· exact rfl); (· exact rfl)) | (apply kQ; (· exact rfl))); all_goals (intro hc; try simp only [decide_eq_true_eq, decide_eq_false_iff_not, Bool.not_eq_true', Bool.not_eq_false', Bool.not_eq_true, Bool.not_eq_false, Bool.not_true, Bool.not_false, Int.not_lt, Int.not_le, List.cons.injEq, and_true, beq_iff_eq, beq_eq_false_iff_ne] at hc; try (exfalso; first | contradiction | omega)))
          )
        apply CW.loop [2, 4, 9, 10, 11, 83, 84, 85, 86, 87, 88, 89, 90, 91, 92, 93, 94, 95, 96, 97, 98, 99, 100, 101, 102, 103, 104, 105, 106, 107, 108, 109, 110, 111, 112, 113, 114, 115, 116, 117] (fun s : Nat × Nat × List MsgA × List MsgA × Option Addr × Nat × List MsgA => s.1 ≤ 40 ∧ QRep s.2.1 s.2.2.1 s.2.2.2.1 ∧ s.2.2.2.1.map MsgA.m = s.2.2.2.2.2.2.map MsgA.m ∧ ∀ x ∈ s.2.2.2.2.2.2, Byt x.m.body ∧ x.m.body.length ≤ 140737488355328) (fun s => [(9, Value.int .i64 (s.1 : Int)), (4, .slice s.2.2.2.2.1 s.2.2.2.2.2.2.length s.2.2.2.2.2.1)])
          (fun s => St w NoF [qO b s.2.1 s.2.2.1 s.2.2.2.1, odB s.2.2.2.2.1 s.2.2.2.2.2.1 s.2.2.2.2.2.2, bunB s.2.2.2.2.2.2, rdA (some ⟨ba, oa, none⟩) (l.flatMap DeedA.row)]) (fun s => 40 - s.1)
        · exact fun w' hw' => ⟨(0, f, sl1, L1, ab, cb, bl), ⟨by simp, rr1, hm1', hb⟩, ⟨rfl, rfl, trivial⟩, hw'⟩
        rintro ⟨k, f2, sl2, L2, ab2, cb2, bl2⟩ g2 ⟨hk, rr2, hm2, hb2⟩
        simp only at hk rr2 hm2 hb2 ⊢
        have hq2 : L2.length = bl2.length := by have := congrArg List.length hm2; simpa using this
        have hL2 := rr2.hL
        by_cases hlt2 : (k : Int) < tk ∧ k < 40
        · obtain ⟨hk1, hk2⟩ := hlt2
          rcases L2 with _ | ⟨x, L2⟩
          · have hbl : bl2 = [] := List.eq_nil_of_length_eq_zero hq2.symm
            subst hbl
            repeat' (
              first
              | (
                first
                | (apply kp; iterate 2 exact rfl)
                | apply ja | apply jb | apply jg | apply jj | (apply je; exact rfl) | (apply jf; exact rfl) | apply jd | apply jh | apply ji | (apply jc; kernel_rfl) | apply jk | apply jl | apply jm | apply jn | apply jo | (apply jp; exact rfl) | apply jq | apply jr | apply js | apply jt | apply ju | apply jv | apply jw | apply kN | apply kM
                | (apply kf; iterate 2 exact rfl)
                | (apply ko; (· exact rfl); (· repeat (first | exact mH _ _ | apply mT)); iterate 2 exact rfl)
                | (apply ka; (· exact rfl); (· repeat (first | exact mH _ _ | apply mT)); iterate 2 exact rfl)
                | (apply kr; (· exact rfl); (· repeat (first | exact mH _ _ | apply mT)); iterate 3 exact rfl)
                | (apply ks; (· exact rfl); (· repeat (first | exact mH _ _ | apply mT)); iterate 2 exact rfl)
                | (apply kn; iterate 2 exact rfl)
                | (apply ke; iterate 2 exact rfl)
                | (apply kx; iterate 2 exact rfl)
                | (apply kc; iterate 2 exact rfl)
                | (apply kb; iterate 2 exact rfl)
                | (apply kg; iterate 2 exact rfl)
                | (apply kG; iterate 3 exact rfl)
                | (apply kB; (iterate 2 exact rfl); intro _)
                | (apply kA; exact rfl; intro _)
                | (apply kL; (iterate 3 exact rfl); (· repeat (first | exact BS.nil _ | (apply BS.int; exact rfl) | (apply BS.ptr; exact rfl) | (apply BS.slice; exact rfl) | (apply BS.agg; iterate 2 exact rfl))); intro _)
                | (apply kT; (iterate 2 exact rfl); (· repeat (first | exact sH _ _ _ | apply sT)); iterate 2 exact rfl)
                | (apply kS; (iterate 2 exact rfl); (· repeat (first | exact sH _ _ _ | apply sT)); exact rfl)
                | (apply kh; (iterate 2 exact rfl); (first | decide | omega); exact rfl)
                | (apply kl; (iterate 2 exact rfl); (first | decide | omega); exact rfl)
                )
              | (apply LR.ev; (· apply Ev.indexAddr; (· exact rfl); (· exact rfl); (· first | omega | (dsimp only; omega)); (· first | omega | (dsimp only; omega))); (· exact rfl))
              | (apply LR.ev; (· apply Ev.load; (· exact rfl); (· intro w' hw'; first | (refine ldp w' (hw'.rd_of ?_) _ ?_; (· (repeat (first | exact mH _ _ | apply mT))); (· simp; done)) | (refine ldt w' (hw'.rd_of ?_) _ ?_; (· (repeat (first | exact mH _ _ | apply mT))); (· simp; done)))); (· exact rfl))
              | (apply kq; (· exact rfl); (· intro w1 h1; first | exact CallsTo.q (c44e b f2 sl2 w1 (qO_rd (h1.holds (qO b f2 sl2 []) (by (repeat (first | exact mH _ _ | apply mT)))))) h1 | exact CallsTo.q (c46 b f2 0 sl2 w1 (qO_rd (h1.holds (qO b f2 sl2 []) (by (repeat (first | exact mH _ _ | apply mT)))))) h1 | exact CallsTo.q (c48 b f2 0 sl2 w1 (qO_rd (h1.holds (qO b f2 sl2 []) (by (repeat (first | exact mH _ _ | apply mT))))) (by omega)) h1))
              | (apply LR.ev; (· apply Ev.add; (· exact rfl); (· exact rfl); (· first | omega | (dsimp only; omega)); (· first | omega | (dsimp only; omega))); (· exact rfl))
              | ((first | (apply kR; (· exact rfl); (· exact rfl)) | (apply kQ; (· exact rfl))); all_goals (intro hc; try simp only [decide_eq_true_eq, decide_eq_false_iff_not, Bool.not_eq_true', Bool.not_eq_false', Bool.not_eq_true, Bool.not_eq_false, Bool.not_true, Bool.not_false, Int.not_lt, Int.not_le, List.cons.injEq, and_true, beq_iff_eq, beq_eq_false_iff_ne] at hc; try (exfalso; first | contradiction | omega)))
              )
            apply At.again (i + 1, f2, sl2, [], ab2, cb2, [])
            · exact ⟨by show i + 1 ≤ _; omega, by show i + 1 ≤ 200; omega, rr2, hm2, hb2⟩
            · (repeat (first | exact Out.refl _ _ | exact Out.mix | (apply Out.upd; (· exact rfl)) | (apply Out.updL; (· exact rfl)) | (apply Out.mixs; (· exact rfl))))
            · exact ⟨rfl, rfl, trivial⟩
            · exact fun w' hw' => hw'.sub (by repeat (first | exact List.Sublist.refl _ | apply List.Sublist.cons_cons | apply List.Sublist.cons))
            · show l.length - (i + 1) < l.length - i
              omega
          · rcases bl2 with _ | ⟨y, bl2⟩
            · simp at hq2
            simp only [List.map_cons, List.cons.injEq] at hm2
            have hxy := hm2.1
            have hby := hb2 y List.mem_cons_self
            refine LR_cls_cw fun w1 hw1 => ?_
            obtain ⟨by_, oy, rfl⟩ := (ownsAt_rd (hw1.holds (odB ab2 cb2 (y :: bl2)) (by (repeat (first | exact mH _ _ | apply mT))))).form (by simp [MsgA.row, Msg.cells])
            refine CW.sub (D := St w NoF _) ?_ (fun u e => e ▸ hw1)
            clear hw1 w1
            repeat' (
              first
              | (
                first
                | (apply kp; iterate 2 exact rfl)
                | apply ja | apply jb | apply jg | apply jj | (apply je; exact rfl) | (apply jf; exact rfl) | apply jd | apply jh | apply ji | (apply jc; kernel_rfl) | apply jk | apply jl | apply jm | apply jn | apply jo | (apply jp; exact rfl) | apply jq | apply jr | apply js | apply jt | apply ju | apply jv | apply jw | apply kN | apply kM
                | (apply kf; iterate 2 exact rfl)
                | (apply ko; (· exact rfl); (· repeat (first | exact mH _ _ | apply mT)); iterate 2 exact rfl)
                | (apply ka; (· exact rfl); (· repeat (first | exact mH _ _ | apply mT)); iterate 2 exact rfl)
                | (apply kr; (· exact rfl); (· repeat (first | exact mH _ _ | apply mT)); iterate 3 exact rfl)
                | (apply ks; (· exact rfl); (· repeat (first | exact mH _ _ | apply mT)); iterate 2 exact rfl)
                | (apply kn; iterate 2 exact rfl)
                | (apply ke; iterate 2 exact rfl)
                | (apply kx; iterate 2 exact rfl)
                | (apply kc; iterate 2 exact rfl)
                | (apply kb; iterate 2 exact rfl)
                | (apply kg; iterate 2 exact rfl)
                | (apply kG; iterate 3 exact rfl)
                | (apply kB; (iterate 2 exact rfl); intro _)
                | (apply kA; exact rfl; intro _)
                | (apply kL; (iterate 3 exact rfl); (· repeat (first | exact BS.nil _ | (apply BS.int; exact rfl) | (apply BS.ptr; exact rfl) | (apply BS.slice; exact rfl) | (apply BS.agg; iterate 2 exact rfl))); intro _)
                | (apply kT; (iterate 2 exact rfl); (· repeat (first | exact sH _ _ _ | apply sT)); iterate 2 exact rfl)
                | (apply kS; (iterate 2 exact rfl); (· repeat (first | exact sH _ _ _ | apply sT)); exact rfl)
                | (apply kh; (iterate 2 exact rfl); (first | decide | omega); exact rfl)
                | (apply kl; (iterate 2 exact rfl); (first | decide | omega); exact rfl)
                )
              | (apply LR.ev; (· apply Ev.indexAddr; (· exact rfl); (· exact rfl); (· first | omega | (dsimp only; omega)); (· first | omega | (dsimp only; omega))); (· exact rfl))
              | (apply LR.ev; (· apply Ev.load; (· exact rfl); (· intro w' hw'; first | (refine ldp w' (hw'.rd_of ?_) _ ?_; (· (repeat (first | exact mH _ _ | apply mT))); (· simp; done)) | (refine ldt w' (hw'.rd_of ?_) _ ?_; (· (repeat (first | exact mH _ _ | apply mT))); (· simp; done)))); (· exact rfl))
              | ((first | (apply kR; (· exact rfl); (· exact rfl)) | (apply kQ; (· exact rfl))); all_goals (intro hc; try simp only [decide_eq_true_eq, decide_eq_false_iff_not, Bool.not_eq_true', Bool.not_eq_false', Bool.not_eq_true, Bool.not_eq_false, Bool.not_true, Bool.not_false, Int.not_lt, Int.not_le, List.cons.injEq, and_true, beq_iff_eq, beq_eq_false_iff_ne] at hc; try (exfalso; first | contradiction | omega)))
              )
            apply LR.call
            · exact rfl
            intro w1 h1
            refine (take_own b f2 sl2 L2 x w1 (h1.holds (qO b f2 sl2 (x :: L2)) (by (repeat (first | exact mH _ _ | apply mT)))) rr2).mono ?_
            rintro v w2 ⟨rfl, sl3, rr3, st⟩
            have h2 := h1.two st rfl rfl rfl (by (repeat (first | exact sH _ _ _ | apply sT)))
            refine LR.back h2 ?_
            clear h2 h1 st
            have hxl : x.m.body.length ≤ 140737488355328 := by rw [hxy]; exact hby.2
            have hl2 : (y :: bl2).length = bl2.length + 1 := rfl
            repeat' (
              first
              | (apply CW.reg_heldC)
              | (
                first
                | (apply kp; iterate 2 exact rfl)
                | apply ja | apply jb | apply jg | apply jj | (apply je; exact rfl) | (apply jf; exact rfl) | apply jd | apply jh | apply ji | (apply jc; kernel_rfl) | apply jk | apply jl | apply jm | apply jn | apply jo | (apply jp; exact rfl) | apply jq | apply jr | apply js | apply jt | apply ju | apply jv | apply jw | apply kN | apply kM
                | (apply kf; iterate 2 exact rfl)
                | (apply ko; (· exact rfl); (· repeat (first | exact mH _ _ | apply mT)); iterate 2 exact rfl)
                | (apply ka; (· exact rfl); (· repeat (first | exact mH _ _ | apply mT)); iterate 2 exact rfl)
                | (apply kr; (· exact rfl); (· repeat (first | exact mH _ _ | apply mT)); iterate 3 exact rfl)
                | (apply ks; (· exact rfl); (· repeat (first | exact mH _ _ | apply mT)); iterate 2 exact rfl)
                | (apply kn; iterate 2 exact rfl)
                | (apply ke; iterate 2 exact rfl)
                | (apply kx; iterate 2 exact rfl)
                | (apply kc; iterate 2 exact rfl)
                | (apply kb; iterate 2 exact rfl)
                | (apply kg; iterate 2 exact rfl)
                | (apply kG; iterate 3 exact rfl)
                | (apply kB; (iterate 2 exact rfl); intro _)
                | (apply kA; exact rfl; intro _)
                | (apply kL; (iterate 3 exact rfl); (· repeat (first | exact BS.nil _ | (apply BS.int; exact rfl) | (apply BS.ptr; exact rfl) | (apply BS.slice; exact rfl) | (apply BS.agg; iterate 2 exact rfl))); intro _)
                | (apply kT; (iterate 2 exact rfl); (· repeat (first | exact sH _ _ _ | apply sT)); iterate 2 exact rfl)
                | (apply kS; (iterate 2 exact rfl); (· repeat (first | exact sH _ _ _ | apply sT)); exact rfl)
                | (apply kh; (iterate 2 exact rfl); (first | decide | omega); exact rfl)
                | (apply kl; (iterate 2 exact rfl); (first | decide | omega); exact rfl)
                )
              | ((first | (apply kR; (· exact rfl); (· exact rfl)) | (apply kQ; (· exact rfl))); all_goals (intro hc; try simp only [decide_eq_true_eq, decide_eq_false_iff_not, Bool.not_eq_true', Bool.not_eq_false', Bool.not_eq_true, Bool.not_eq_false, Bool.not_true, Bool.not_false, Int.not_lt, Int.not_le, List.cons.injEq, and_true, beq_iff_eq, beq_eq_false_iff_ne] at hc; try (exfalso; first | contradiction | omega)))
              )
            all_goals (
              apply DW.quiet [0, 1, 2, 3, 4, 5, 6]
              · decide +kernel
              · first | exact fun _ h => h | exact fun _ h => St.sub h (by repeat (first | exact List.Sublist.refl _ | apply List.Sublist.cons_cons | apply List.Sublist.cons))
              repeat' (
                first
                | (apply yp; iterate 3 exact rfl)
                | (apply QL.ev; exact rfl
                   · first
                     | (apply Ev.load_own; (· exact rfl); (· repeat (first | exact mH _ _ | apply mT)); exact rfl)
                     | (apply Ev.load_agg; (· exact rfl); (· repeat (first | exact mH _ _ | apply mT)); exact rfl)
                     | (apply Ev.load_rdq; (· exact rfl); (· repeat (first | exact mH _ _ | apply mT)); iterate 2 exact rfl)
                     | (apply Ev.load_ardq; (· exact rfl); (· repeat (first | exact mH _ _ | apply mT)); exact rfl)
                     | (apply Ev.fieldAddr; exact rfl)
                     | (apply Ev.len; exact rfl)
                     | (apply EqOf.eq; exact rfl)
                     | (apply EqOf.ne; exact rfl)
                     | (apply Ev.conv; exact rfl)
                     | (apply Ev.buildN; exact rfl)
                     | (apply Ev.shr; (iterate 2 exact rfl); first | decide | omega)
                     | (apply Ev.shl; (iterate 2 exact rfl); first | decide | omega)
                   · exact rfl)
                | (apply QL.evg; (iterate 3 exact rfl); (· first | (apply Ev.indexAddr; (· exact rfl); (· exact rfl); (· omega); (· omega)) | (apply Ev.load_agg_at (cs := y.row); (· exact rfl); (· exact rfl); (· intro w' hw'; exact rd_row (l := y :: bl2) (i := 0) MsgA.row_len (ownsAt_rd (hw'.holds (odB (some ⟨by_, oy, none⟩) cb2 (y :: bl2)) (by (repeat (first | exact mH _ _ | apply mT))))) (by simp) (by simp)))); (· exact rfl))
                | (apply yq; iterate 5 exact rfl)
                | (apply QL.evg; iterate 3 exact rfl
                   · first
                     | (apply Ev.load_own; (· exact rfl); (· repeat (first | exact mH _ _ | apply mT)); exact rfl)
                     | (apply Ev.load_agg; (· exact rfl); (· repeat (first | exact mH _ _ | apply mT)); exact rfl)
                     | (apply Ev.load_rdq; (· exact rfl); (· repeat (first | exact mH _ _ | apply mT)); iterate 2 exact rfl)
                     | (apply Ev.load_ardq; (· exact rfl); (· repeat (first | exact mH _ _ | apply mT)); exact rfl)
                     | (apply Ev.fieldAddr; exact rfl)
                     | (apply Ev.len; exact rfl)
                     | (apply EqOf.eq; exact rfl)
                     | (apply EqOf.ne; exact rfl)
                     | (apply Ev.conv; exact rfl)
                     | (apply Ev.buildN; exact rfl)
                     | (apply Ev.shr; (iterate 2 exact rfl); first | decide | omega)
                     | (apply Ev.shl; (iterate 2 exact rfl); first | decide | omega)
                   · exact rfl)
                | (apply yn; iterate 4 exact rfl)
                | ((apply QL.split; (· exact rfl); (· exact rfl); (· exact rfl)); all_goals (intro hc; try simp only [decide_eq_true_eq, decide_eq_false_iff_not, Bool.not_eq_true', Bool.not_eq_false', Bool.not_eq_true, Bool.not_eq_false, Bool.not_true, Bool.not_false, Int.not_lt, Int.not_le, List.cons.injEq, and_true, beq_iff_eq, beq_eq_false_iff_ne] at hc; try (exfalso; first | contradiction | omega)))
                | apply QL.nil
                )
              all_goals (show DW _ _ _ _ _ _ _ _))
            all_goals (
              apply DW.loud 7
              · exact rfl
              · decide +kernel
              repeat' (
                first
                | (apply kg; iterate 2 exact rfl)
                | (apply kG; iterate 3 exact rfl)
                | apply kM
                | (
                  first
                  | (apply kp; iterate 2 exact rfl)
                  | (apply ko; (· exact rfl); (· repeat (first | exact mH _ _ | apply mT)); iterate 2 exact rfl)
                  | (apply ka; (· exact rfl); (· repeat (first | exact mH _ _ | apply mT)); iterate 2 exact rfl)
                  | (apply kL; (iterate 3 exact rfl); (· repeat (first | exact BS.nil _ | (apply BS.int; exact rfl) | (apply BS.ptr; exact rfl) | (apply BS.slice; exact rfl) | (apply BS.agg; iterate 2 exact rfl))); intro _)
                  | (apply kT; (iterate 2 exact rfl); (· repeat (first | exact sH _ _ _ | apply sT)); iterate 2 exact rfl)
                  | (apply kS; (iterate 2 exact rfl); (· repeat (first | exact sH _ _ _ | apply sT)); exact rfl)
                  | (apply kB; (iterate 2 exact rfl); intro _)
                  | (apply kA; exact rfl; intro _)
                  )
                | (apply kq; (· exact rfl); (· intro w1 h1; have hq := CallsTo.q (c20 x.m y.m x.a y.a x.c y.c w1 (h1.rd_of_own (by (repeat (first | exact mH _ _ | apply mT)))) (bun_MR (h1.holds (bunB (y :: bl2)) (by (repeat (first | exact mH _ _ | apply mT)))) hb2 y List.mem_cons_self).hr hxl) h1; rw [show sameB x.m y.m = true by rw [hxy]; exact sameB_self _] at hq; show CallsTo Try.prog 20 [x.m.val x.a x.c, y.m.val y.a y.c] w1 _; exact hq))
                )
              all_goals (refine At.stage_same (fun _ h => St.sub h (by repeat (first | exact List.Sublist.refl _ | apply List.Sublist.cons_cons | apply List.Sublist.cons))) ?_))
            all_goals (
              apply DW.quiet [8, 9]
              · decide +kernel
              · first | exact fun _ h => h | exact fun _ h => St.sub h (by repeat (first | exact List.Sublist.refl _ | apply List.Sublist.cons_cons | apply List.Sublist.cons))
              repeat' (
                first
                | (apply yp; iterate 3 exact rfl)
                | (apply QL.ev; exact rfl
                   · first
                     | (apply Ev.load_own; (· exact rfl); (· repeat (first | exact mH _ _ | apply mT)); exact rfl)
                     | (apply Ev.load_agg; (· exact rfl); (· repeat (first | exact mH _ _ | apply mT)); exact rfl)
                     | (apply Ev.load_rdq; (· exact rfl); (· repeat (first | exact mH _ _ | apply mT)); iterate 2 exact rfl)
                     | (apply Ev.load_ardq; (· exact rfl); (· repeat (first | exact mH _ _ | apply mT)); exact rfl)
                     | (apply Ev.fieldAddr; exact rfl)
                     | (apply Ev.len; exact rfl)
                     | (apply EqOf.eq; exact rfl)
                     | (apply EqOf.ne; exact rfl)
                     | (apply Ev.conv; exact rfl)
                     | (apply Ev.buildN; exact rfl)
                     | (apply Ev.shr; (iterate 2 exact rfl); first | decide | omega)
                     | (apply Ev.shl; (iterate 2 exact rfl); first | decide | omega)
                   · exact rfl)
                | (apply QL.evg; (iterate 3 exact rfl); (· first | (apply Ev.indexAddr; (· exact rfl); (· exact rfl); (· omega); (· omega)) | (apply Ev.load_agg_at (cs := y.row); (· exact rfl); (· exact rfl); (· intro w' hw'; exact rd_row (l := y :: bl2) (i := 0) MsgA.row_len (ownsAt_rd (hw'.holds (odB (some ⟨by_, oy, none⟩) cb2 (y :: bl2)) (by (repeat (first | exact mH _ _ | apply mT))))) (by simp) (by simp)))); (· exact rfl))
                | (apply yq; iterate 5 exact rfl)
                | (apply QL.evg; iterate 3 exact rfl
                   · first
                     | (apply Ev.load_own; (· exact rfl); (· repeat (first | exact mH _ _ | apply mT)); exact rfl)
                     | (apply Ev.load_agg; (· exact rfl); (· repeat (first | exact mH _ _ | apply mT)); exact rfl)
                     | (apply Ev.load_rdq; (· exact rfl); (· repeat (first | exact mH _ _ | apply mT)); iterate 2 exact rfl)
                     | (apply Ev.load_ardq; (· exact rfl); (· repeat (first | exact mH _ _ | apply mT)); exact rfl)
                     | (apply Ev.fieldAddr; exact rfl)
                     | (apply Ev.len; exact rfl)
                     | (apply EqOf.eq; exact rfl)
                     | (apply EqOf.ne; exact rfl)
                     | (apply Ev.conv; exact rfl)
                     | (apply Ev.buildN; exact rfl)
                     | (apply Ev.shr; (iterate 2 exact rfl); first | decide | omega)
                     | (apply Ev.shl; (iterate 2 exact rfl); first | decide | omega)
                   · exact rfl)
                | (apply yn; iterate 4 exact rfl)
                | ((apply QL.split; (· exact rfl); (· exact rfl); (· exact rfl)); all_goals (intro hc; try simp only [decide_eq_true_eq, decide_eq_false_iff_not, Bool.not_eq_true', Bool.not_eq_false', Bool.not_eq_true, Bool.not_eq_false, Bool.not_true, Bool.not_false, Int.not_lt, Int.not_le, List.cons.injEq, and_true, beq_iff_eq, beq_eq_false_iff_ne] at hc; try (exfalso; first | contradiction | omega)))
                | apply QL.nil
                )
              all_goals (show DW _ _ _ _ _ _ _ _))
            all_goals (first | (apply DW.done_thn; (· decide +kernel)) | (apply DW.done; (· decide +kernel)))
            repeat' (
              first
              | (
                first
                | (apply kp; iterate 2 exact rfl)
                | apply ja | apply jb | apply jg | apply jj | (apply je; exact rfl) | (apply jf; exact rfl) | apply jd | apply jh | apply ji | (apply jc; kernel_rfl) | apply jk | apply jl | apply jm | apply jn | apply jo | (apply jp; exact rfl) | apply jq | apply jr | apply js | apply jt | apply ju | apply jv | apply jw | apply kN | apply kM
                | (apply kf; iterate 2 exact rfl)
                | (apply ko; (· exact rfl); (· repeat (first | exact mH _ _ | apply mT)); iterate 2 exact rfl)
                | (apply ka; (· exact rfl); (· repeat (first | exact mH _ _ | apply mT)); iterate 2 exact rfl)
                | (apply kr; (· exact rfl); (· repeat (first | exact mH _ _ | apply mT)); iterate 3 exact rfl)
                | (apply ks; (· exact rfl); (· repeat (first | exact mH _ _ | apply mT)); iterate 2 exact rfl)
                | (apply kn; iterate 2 exact rfl)
                | (apply ke; iterate 2 exact rfl)
                | (apply kx; iterate 2 exact rfl)
                | (apply kc; iterate 2 exact rfl)
                | (apply kb; iterate 2 exact rfl)
                | (apply kg; iterate 2 exact rfl)
                | (apply kG; iterate 3 exact rfl)
                | (apply kB; (iterate 2 exact rfl); intro _)
                | (apply kA; exact rfl; intro _)
                | (apply kL; (iterate 3 exact rfl); (· repeat (first | exact BS.nil _ | (apply BS.int; exact rfl) | (apply BS.ptr; exact rfl) | (apply BS.slice; exact rfl) | (apply BS.agg; iterate 2 exact rfl))); intro _)
                | (apply kT; (iterate 2 exact rfl); (· repeat (first | exact sH _ _ _ | apply sT)); iterate 2 exact rfl)
                | (apply kS; (iterate 2 exact rfl); (· repeat (first | exact sH _ _ _ | apply sT)); exact rfl)
                | (apply kh; (iterate 2 exact rfl); (first | decide | omega); exact rfl)
                | (apply kl; (iterate 2 exact rfl); (first | decide | omega); exact rfl)
                )
              | (apply LR.ev; (· apply Ev.add; (· exact rfl); (· exact rfl); (· first | omega | (dsimp only; omega)); (· first | omega | (dsimp only; omega))); (· exact rfl))
              | (apply LR.ev; (· apply Ev.slice_lo; (· exact rfl); (· exact rfl); (· first | omega | (dsimp only; omega)); (· first | omega | (dsimp only; omega))); (· exact rfl))
              | ((first | (apply kR; (· exact rfl); (· exact rfl)) | (apply kQ; (· exact rfl))); all_goals (intro hc; try simp only [decide_eq_true_eq, decide_eq_false_iff_not, Bool.not_eq_true', Bool.not_eq_false', Bool.not_eq_true, Bool.not_eq_false, Bool.not_true, Bool.not_false, Int.not_lt, Int.not_le, List.cons.injEq, and_true, beq_iff_eq, beq_eq_false_iff_ne] at hc; try (exfalso; first | contradiction | omega)))
              )
            apply At.again (k + 1, (f2 + 1) % 32, sl3, L2, subA (some ⟨by_, oy, none⟩) cb2 1 13, cb2 - 1, bl2)
            · exact ⟨by show k + 1 ≤ 40; omega, rr3, hm2.2, fun z hz => hb2 z (List.mem_cons_of_mem _ hz)⟩
            · (repeat (first | exact Out.refl _ _ | exact Out.mix | (apply Out.upd; (· exact rfl)) | (apply Out.updL; (· exact rfl)) | (apply Out.mixs; (· exact rfl))))
            · exact ⟨rfl, rfl, trivial⟩
            · intro w' hw'
              have h2 := hw'.odl_drop (l := 1) (E := 28) (sz := 13) (xs := (y :: bl2).flatMap MsgA.row) (a := some ⟨by_, oy, none⟩) (c := cb2) (k := (y :: bl2).length) (by (repeat (first | exact sH _ _ _ | apply sT))) (by simp)
              exact (front (front (St.bun_head MsgA.dep (front h2 4 rfl rfl)).tail1 4 rfl rfl) 4 rfl rfl).sub (by repeat (first | exact List.Sublist.refl _ | apply List.Sublist.cons_cons | apply List.Sublist.cons))
            · show 40 - (k + 1) < 40 - k
              omega
        · repeat' (
            first
            | (
              first
              | (apply kp; iterate 2 exact rfl)
              | apply ja | apply jb | apply jg | apply jj | (apply je; exact rfl) | (apply jf; exact rfl) | apply jd | apply jh | apply ji | (apply jc; kernel_rfl) | apply jk | apply jl | apply jm | apply jn | apply jo | (apply jp; exact rfl) | apply jq | apply jr | apply js | apply jt | apply ju | apply jv | apply jw | apply kN | apply kM
              | (apply kf; iterate 2 exact rfl)
              | (apply ko; (· exact rfl); (· repeat (first | exact mH _ _ | apply mT)); iterate 2 exact rfl)
              | (apply ka; (· exact rfl); (· repeat (first | exact mH _ _ | apply mT)); iterate 2 exact rfl)
              | (apply kr; (· exact rfl); (· repeat (first | exact mH _ _ | apply mT)); iterate 3 exact rfl)
              | (apply ks; (· exact rfl); (· repeat (first | exact mH _ _ | apply mT)); iterate 2 exact rfl)
              | (apply kn; iterate 2 exact rfl)
              | (apply ke; iterate 2 exact rfl)
              | (apply kx; iterate 2 exact rfl)
              | (apply kc; iterate 2 exact rfl)
              | (apply kb; iterate 2 exact rfl)
              | (apply kg; iterate 2 exact rfl)
              | (apply kG; iterate 3 exact rfl)
              | (apply kB; (iterate 2 exact rfl); intro _)
              | (apply kA; exact rfl; intro _)
              | (apply kL; (iterate 3 exact rfl); (· repeat (first | exact BS.nil _ | (apply BS.int; exact rfl) | (apply BS.ptr; exact rfl) | (apply BS.slice; exact rfl) | (apply BS.agg; iterate 2 exact rfl))); intro _)
              | (apply kT; (iterate 2 exact rfl); (· repeat (first | exact sH _ _ _ | apply sT)); iterate 2 exact rfl)
              | (apply kS; (iterate 2 exact rfl); (· repeat (first | exact sH _ _ _ | apply sT)); exact rfl)
              | (apply kh; (iterate 2 exact rfl); (first | decide | omega); exact rfl)
              | (apply kl; (iterate 2 exact rfl); (first | decide | omega); exact rfl)
              )
            | (apply LR.ev; (· apply Ev.indexAddr; (· exact rfl); (· exact rfl); (· first | omega | (dsimp only; omega)); (· first | omega | (dsimp only; omega))); (· exact rfl))
            | (apply LR.ev; (· apply Ev.load; (· exact rfl); (· intro w' hw'; first | (refine ldp w' (hw'.rd_of ?_) _ ?_; (· (repeat (first | exact mH _ _ | apply mT))); (· simp; done)) | (refine ldt w' (hw'.rd_of ?_) _ ?_; (· (repeat (first | exact mH _ _ | apply mT))); (· simp; done)))); (· exact rfl))
            | (apply kq; (· exact rfl); (· intro w1 h1; first | exact CallsTo.q (c46 b f2 L2.length sl2 w1 (qO_rd (h1.holds (qO b f2 sl2 L2) (by (repeat (first | exact mH _ _ | apply mT)))))) h1 | exact CallsTo.q (c48 b f2 L2.length sl2 w1 (qO_rd (h1.holds (qO b f2 sl2 L2) (by (repeat (first | exact mH _ _ | apply mT))))) hL2) h1))
            | (apply LR.ev; (· apply Ev.add; (· exact rfl); (· exact rfl); (· first | omega | (dsimp only; omega)); (· first | omega | (dsimp only; omega))); (· exact rfl))
            | ((first | (apply kR; (· exact rfl); (· exact rfl)) | (apply kQ; (· exact rfl))); all_goals (intro hc; try simp only [decide_eq_true_eq, decide_eq_false_iff_not, Bool.not_eq_true', Bool.not_eq_false', Bool.not_eq_true, Bool.not_eq_false, Bool.not_true, Bool.not_false, Int.not_lt, Int.not_le, List.cons.injEq, and_true, beq_iff_eq, beq_eq_false_iff_ne] at hc; try (exfalso; first | contradiction | omega)))
            )
          all_goals (
            apply At.again (i + 1, f2, sl2, L2, ab2, cb2, bl2)
            · exact ⟨by show i + 1 ≤ _; omega, by show i + 1 ≤ 200; omega, rr2, hm2, hb2⟩
            · (repeat (first | exact Out.refl _ _ | exact Out.mix | (apply Out.upd; (· exact rfl)) | (apply Out.updL; (· exact rfl)) | (apply Out.mixs; (· exact rfl))))
            · exact ⟨rfl, rfl, trivial⟩
            · exact fun w' hw' => hw'.sub (by repeat (first | exact List.Sublist.refl _ | apply List.Sublist.cons_cons | apply List.Sublist.cons))
            · show l.length - (i + 1) < l.length - i
              omega)
      · by_cases hfull : 32 < L.length + ms.length
        · skip
          apply LR.call
          · exact rfl
          intro w1 h1
          have hh := put_deed (b := b) (first := f) (slots := sl) (L := L) (x := ⟨xa, xc, ms, tk⟩) h1 (by (repeat (first | exact mH _ _ | apply mT))) rr dr
          rw [qputE_full (l := ms) (allok_mem hok) hfull hL] at hh
          refine CallsTo.mono hh ?_
          clear hh
          rintro v w2 ⟨sl1, L1, rfl, rr1, m1, st⟩
          have h2 := h1.one' st rfl (qO_dep _ _ _ _) (by (repeat (first | exact sH _ _ _ | apply sT)))
          refine LR.back h2 ?_
          clear h2 h1 st
          have hm1' : L1.map MsgA.m = bl.map MsgA.m := by rw [m1, ← hm1]; simp
          repeat' (
            first
            | (
              first
              | (apply kp; iterate 2 exact rfl)
              | apply ja | apply jb | apply jg | apply jj | (apply je; exact rfl) | (apply jf; exact rfl) | apply jd | apply jh | apply ji | (apply jc; kernel_rfl) | apply jk | apply jl | apply jm | apply jn | apply jo | (apply jp; exact rfl) | apply jq | apply jr | apply js | apply jt | apply ju | apply jv | apply jw | apply kN | apply kM
              | (apply kf; iterate 2 exact rfl)
              | (apply ko; (· exact rfl); (· repeat (first | exact mH _ _ | apply mT)); iterate 2 exact rfl)
              | (apply ka; (· exact rfl); (· repeat (first | exact mH _ _ | apply mT)); iterate 2 exact rfl)
              | (apply kr; (· exact rfl); (· repeat (first | exact mH _ _ | apply mT)); iterate 3 exact rfl)
              | (apply ks; (· exact rfl); (· repeat (first | exact mH _ _ | apply mT)); iterate 2 exact rfl)
              | (apply kn; iterate 2 exact rfl)
              | (apply ke; iterate 2 exact rfl)
              | (apply kx; iterate 2 exact rfl)
              | (apply kc; iterate 2 exact rfl)
              | (apply kb; iterate 2 exact rfl)
              | (apply kg; iterate 2 exact rfl)
              | (apply kG; iterate 3 exact rfl)
              | (apply kB; (iterate 2 exact rfl); intro _)
              | (apply kA; exact rfl; intro _)
              | (apply kL; (iterate 3 exact rfl); (· repeat (first | exact BS.nil _ | (apply BS.int; exact rfl) | (apply BS.ptr; exact rfl) | (apply BS.slice; exact rfl) | (apply BS.agg; iterate 2 exact rfl))); intro _)
              | (apply kT; (iterate 2 exact rfl); (· repeat (first | exact sH _ _ _ | apply sT)); iterate 2 exact rfl)
              | (apply kS; (iterate 2 exact rfl); (· repeat (first | exact sH _ _ _ | apply sT)); exact rfl)
              | (apply kh; (iterate 2 exact rfl); (first | decide | omega); exact rfl)
              | (apply kl; (iterate 2 exact rfl); (first | decide | omega); exact rfl)
              )
            | (apply LR.ev; (· apply Ev.indexAddr; (· exact rfl); (· exact rfl); (· first | omega | (dsimp only; omega)); (· first | omega | (dsimp only; omega))); (· exact rfl))
            | (apply LR.ev; (· apply Ev.load; (· exact rfl); (· intro w' hw'; first | (refine ldp w' (hw'.rd_of ?_) _ ?_; (· (repeat (first | exact mH _ _ | apply mT))); (· simp; done)) | (refine ldt w' (hw'.rd_of ?_) _ ?_; (· (repeat (first | exact mH _ _ | apply mT))); (· simp; done)))); (· exact rfl))
            | (apply LR.ev; (· apply Ev.add; (· exact rfl); (· exact rfl); (· first | omega | (dsimp only; omega)); (· first | omega | (dsimp only; omega))); (· exact rfl))
            | ((first | (apply kR; (· exact rfl); (· exact rfl)) | (apply kQ; (· exact rfl))); all_goals (intro hc; try simp only [decide_eq_true_eq, decide_eq_false_iff_not, Bool.not_eq_true', Bool.not_eq_false', Bool.not_eq_true, Bool.not_eq_false, Bool.not_true, Bool.not_false, Int.not_lt, Int.not_le, List.cons.injEq, and_true, beq_iff_eq, beq_eq_false_iff_ne] at hc; try (exfalso; first | contradiction | omega)))
            )
          apply CW.loop [2, 4, 9, 10, 11, 83, 84, 85, 86, 87, 88, 89, 90, 91, 92, 93, 94, 95, 96, 97, 98, 99, 100, 101, 102, 103, 104, 105, 106, 107, 108, 109, 110, 111, 112, 113, 114, 115, 116, 117] (fun s : Nat × Nat × List MsgA × List MsgA × Option Addr × Nat × List MsgA => s.1 ≤ 40 ∧ QRep s.2.1 s.2.2.1 s.2.2.2.1 ∧ s.2.2.2.1.map MsgA.m = s.2.2.2.2.2.2.map MsgA.m ∧ ∀ x ∈ s.2.2.2.2.2.2, Byt x.m.body ∧ x.m.body.length ≤ 140737488355328) (fun s => [(9, Value.int .i64 (s.1 : Int)), (4, .slice s.2.2.2.2.1 s.2.2.2.2.2.2.length s.2.2.2.2.2.1)])
            (fun s => St w NoF [qO b s.2.1 s.2.2.1 s.2.2.2.1, odB s.2.2.2.2.1 s.2.2.2.2.2.1 s.2.2.2.2.2.2, bunB s.2.2.2.2.2.2, rdA (some ⟨ba, oa, none⟩) (l.flatMap DeedA.row)]) (fun s => 40 - s.1)
          · exact fun w' hw' => ⟨(0, f, sl1, L1, ab, cb, bl), ⟨by simp, rr1, hm1', hb⟩, ⟨rfl, rfl, trivial⟩, hw'⟩
          rintro ⟨k, f2, sl2, L2, ab2, cb2, bl2⟩ g2 ⟨hk, rr2, hm2, hb2⟩
          simp only at hk rr2 hm2 hb2 ⊢
          have hq2 : L2.length = bl2.length := by have := congrArg List.length hm2; simpa using this
          have hL2 := rr2.hL
          by_cases hlt2 : (k : Int) < tk ∧ k < 40
          · obtain ⟨hk1, hk2⟩ := hlt2
            rcases L2 with _ | ⟨x, L2⟩
            · have hbl : bl2 = [] := List.eq_nil_of_length_eq_zero hq2.symm
              subst hbl
              repeat' (
                first
                | (
                  first
                  | (apply kp; iterate 2 exact rfl)
                  | apply ja | apply jb | apply jg | apply jj | (apply je; exact rfl) | (apply jf; exact rfl) | apply jd | apply jh | apply ji | (apply jc; kernel_rfl) | apply jk | apply jl | apply jm | apply jn | apply jo | (apply jp; exact rfl) | apply jq | apply jr | apply js | apply jt | apply ju | apply jv | apply jw | apply kN | apply kM
                  | (apply kf; iterate 2 exact rfl)
                  | (apply ko; (· exact rfl); (· repeat (first | exact mH _ _ | apply mT)); iterate 2 exact rfl)
                  | (apply ka; (· exact rfl); (· repeat (first | exact mH _ _ | apply mT)); iterate 2 exact rfl)
                  | (apply kr; (· exact rfl); (· repeat (first | exact mH _ _ | apply mT)); iterate 3 exact rfl)
                  | (apply ks; (· exact rfl); (· repeat (first | exact mH _ _ | apply mT)); iterate 2 exact rfl)
                  | (apply kn; iterate 2 exact rfl)
                  | (apply ke; iterate 2 exact rfl)
                  | (apply kx; iterate 2 exact rfl)
                  | (apply kc; iterate 2 exact rfl)
                  | (apply kb; iterate 2 exact rfl)
                  | (apply kg; iterate 2 exact rfl)
                  | (apply kG; iterate 3 exact rfl)
                  | (apply kB; (iterate 2 exact rfl); intro _)
                  | (apply kA; exact rfl; intro _)
                  | (apply kL; (iterate 3 exact rfl); (· repeat (first | exact BS.nil _ | (apply BS.int; exact rfl) | (apply BS.ptr; exact rfl) | (apply BS.slice; exact rfl) | (apply BS.agg; iterate 2 exact rfl))); intro _)
                  | (apply kT; (iterate 2 exact rfl); (· repeat (first | exact sH _ _ _ | apply sT)); iterate 2 exact rfl)
                  | (apply kS; (iterate 2 exact rfl); (· repeat (first | exact sH _ _ _ | apply sT)); exact rfl)
                  | (apply kh; (iterate 2 exact rfl); (first | decide | omega); exact rfl)
                  | (apply kl; (iterate 2 exact rfl); (first | decide | omega); exact rfl)
                  )
                | (apply LR.ev; (· apply Ev.indexAddr; (· exact rfl); (· exact rfl); (· first | omega | (dsimp only; omega)); (· first | omega | (dsimp only; omega))); (· exact rfl))
                | (apply LR.ev; (· apply Ev.load; (· exact rfl); (· intro w' hw'; first | (refine ldp w' (hw'.rd_of ?_) _ ?_; (· (repeat (first | exact mH _ _ | apply mT))); (· simp; done)) | (refine ldt w' (hw'.rd_of ?_) _ ?_; (· (repeat (first | exact mH _ _ | apply mT))); (· simp; done)))); (· exact rfl))
                | (apply kq; (· exact rfl); (· intro w1 h1; first | exact CallsTo.q (c44e b f2 sl2 w1 (qO_rd (h1.holds (qO b f2 sl2 []) (by (repeat (first | exact mH _ _ | apply mT)))))) h1 | exact CallsTo.q (c46 b f2 0 sl2 w1 (qO_rd (h1.holds (qO b f2 sl2 []) (by (repeat (first | exact mH _ _ | apply mT)))))) h1 | exact CallsTo.q (c48 b f2 0 sl2 w1 (qO_rd (h1.holds (qO b f2 sl2 []) (by (repeat (first | exact mH _ _ | apply mT))))) (by omega)) h1))
                | (apply LR.ev; (· apply Ev.add; (· exact rfl); (· exact rfl); (· first | omega | (dsimp only; omega)); (· first | omega | (dsimp only; omega))); (· exact rfl))
                | ((first | (apply kR; (· exact rfl); (· exact rfl)) | (apply kQ; (· exact rfl))); all_goals (intro hc; try simp only [decide_eq_true_eq, decide_eq_false_iff_not, Bool.not_eq_true', Bool.not_eq_false', Bool.not_eq_true, Bool.not_eq_false, Bool.not_true, Bool.not_false, Int.not_lt, Int.not_le, List.cons.injEq, and_true, beq_iff_eq, beq_eq_false_iff_ne] at hc; try (exfalso; first | contradiction | omega)))
                )
              apply At.again (i + 1, f2, sl2, [], ab2, cb2, [])
              · exact ⟨by show i + 1 ≤ _; omega, by show i + 1 ≤ 200; omega, rr2, hm2, hb2⟩
              · (repeat (first | exact Out.refl _ _ | exact Out.mix | (apply Out.upd; (· exact rfl)) | (apply Out.updL; (· exact rfl)) | (apply Out.mixs; (· exact rfl))))
              · exact ⟨rfl, rfl, trivial⟩
              · exact fun w' hw' => hw'.sub (by repeat (first | exact List.Sublist.refl _ | apply List.Sublist.cons_cons | apply List.Sublist.cons))
              · show l.length - (i + 1) < l.length - i
                omega
            · rcases bl2 with _ | ⟨y, bl2⟩
              · simp at hq2
              simp only [List.map_cons, List.cons.injEq] at hm2
              have hxy := hm2.1
              have hby := hb2 y List.mem_cons_self
              refine LR_cls_cw fun w1 hw1 => ?_
              obtain ⟨by_, oy, rfl⟩ := (ownsAt_rd (hw1.holds (odB ab2 cb2 (y :: bl2)) (by (repeat (first | exact mH _ _ | apply mT))))).form (by simp [MsgA.row, Msg.cells])
              refine CW.sub (D := St w NoF _) ?_ (fun u e => e ▸ hw1)
              clear hw1 w1
              repeat' (
                first
                | (
                  first
                  | (apply kp; iterate 2 exact rfl)
                  | apply ja | apply jb | apply jg | apply jj | (apply je; exact rfl) | (apply jf; exact rfl) | apply jd | apply jh | apply ji | (apply jc; kernel_rfl) | apply jk | apply jl | apply jm | apply jn | apply jo | (apply jp; exact rfl) | apply jq | apply jr | apply js | apply jt | apply ju | apply jv | apply jw | apply kN | apply kM
                  | (apply kf; iterate 2 exact rfl)
                  | (apply ko; (· exact rfl); (· repeat (first | exact mH _ _ | apply mT)); iterate 2 exact rfl)
                  | (apply ka; (· exact rfl); (· repeat (first | exact mH _ _ | apply mT)); iterate 2 exact rfl)
                  | (apply kr; (· exact rfl); (· repeat (first | exact mH _ _ | apply mT)); iterate 3 exact rfl)
                  | (apply ks; (· exact rfl); (· repeat (first | exact mH _ _ | apply mT)); iterate 2 exact rfl)
                  | (apply kn; iterate 2 exact rfl)
                  | (apply ke; iterate 2 exact rfl)
                  | (apply kx; iterate 2 exact rfl)
                  | (apply kc; iterate 2 exact rfl)
                  | (apply kb; iterate 2 exact rfl)
                  | (apply kg; iterate 2 exact rfl)
                  | (apply kG; iterate 3 exact rfl)
                  | (apply kB; (iterate 2 exact rfl); intro _)
                  | (apply kA; exact rfl; intro _)
                  | (apply kL; (iterate 3 exact rfl); (· repeat (first | exact BS.nil _ | (apply BS.int; exact rfl) | (apply BS.ptr; exact rfl) | (apply BS.slice; exact rfl) | (apply BS.agg; iterate 2 exact rfl))); intro _)
                  | (apply kT; (iterate 2 exact rfl); (· repeat (first | exact sH _ _ _ | apply sT)); iterate 2 exact rfl)
                  | (apply kS; (iterate 2 exact rfl); (· repeat (first | exact sH _ _ _ | apply sT)); exact rfl)
                  | (apply kh; (iterate 2 exact rfl); (first | decide | omega); exact rfl)
                  | (apply kl; (iterate 2 exact rfl); (first | decide | omega); exact rfl)
                  )
                | (apply LR.ev; (· apply Ev.indexAddr; (· exact rfl); (· exact rfl); (· first | omega | (dsimp only; omega)); (· first | omega | (dsimp only; omega))); (· exact rfl))
                | (apply LR.ev; (· apply Ev.load; (· exact rfl); (· intro w' hw'; first | (refine ldp w' (hw'.rd_of ?_) _ ?_; (· (repeat (first | exact mH _ _ | apply mT))); (· simp; done)) | (refine ldt w' (hw'.rd_of ?_) _ ?_; (· (repeat (first | exact mH _ _ | apply mT))); (· simp; done)))); (· exact rfl))
                | ((first | (apply kR; (· exact rfl); (· exact rfl)) | (apply kQ; (· exact rfl))); all_goals (intro hc; try simp only [decide_eq_true_eq, decide_eq_false_iff_not, Bool.not_eq_true', Bool.not_eq_false', Bool.not_eq_true, Bool.not_eq_false, Bool.not_true, Bool.not_false, Int.not_lt, Int.not_le, List.cons.injEq, and_true, beq_iff_eq, beq_eq_false_iff_ne] at hc; try (exfalso; first | contradiction | omega)))
                )
              apply LR.call
              · exact rfl
              intro w1 h1
              refine (take_own b f2 sl2 L2 x w1 (h1.holds (qO b f2 sl2 (x :: L2)) (by (repeat (first | exact mH _ _ | apply mT)))) rr2).mono ?_
              rintro v w2 ⟨rfl, sl3, rr3, st⟩
              have h2 := h1.two st rfl rfl rfl (by (repeat (first | exact sH _ _ _ | apply sT)))
              refine LR.back h2 ?_
              clear h2 h1 st
              have hxl : x.m.body.length ≤ 140737488355328 := by rw [hxy]; exact hby.2
              have hl2 : (y :: bl2).length = bl2.length + 1 := rfl
              repeat' (
                first
                | (apply CW.reg_heldC)
                | (
                  first
                  | (apply kp; iterate 2 exact rfl)
                  | apply ja | apply jb | apply jg | apply jj | (apply je; exact rfl) | (apply jf; exact rfl) | apply jd | apply jh | apply ji | (apply jc; kernel_rfl) | apply jk | apply jl | apply jm | apply jn | apply jo | (apply jp; exact rfl) | apply jq | apply jr | apply js | apply jt | apply ju | apply jv | apply jw | apply kN | apply kM
                  | (apply kf; iterate 2 exact rfl)
                  | (apply ko; (· exact rfl); (· repeat (first | exact mH _ _ | apply mT)); iterate 2 exact rfl)
                  | (apply ka; (· exact rfl); (· repeat (first | exact mH _ _ | apply mT)); iterate 2 exact rfl)
                  | (apply kr; (· exact rfl); (· repeat (first | exact mH _ _ | apply mT)); iterate 3 exact rfl)
                  | (apply ks; (· exact rfl); (· repeat (first | exact mH _ _ | apply mT)); iterate 2 exact rfl)
                  | (apply kn; iterate 2 exact rfl)
                  | (apply ke; iterate 2 exact rfl)
                  | (apply kx; iterate 2 exact rfl)
                  | (apply kc; iterate 2 exact rfl)
                  | (apply kb; iterate 2 exact rfl)
                  | (apply kg; iterate 2 exact rfl)
                  | (apply kG; iterate 3 exact rfl)
                  | (apply kB; (iterate 2 exact rfl); intro _)
                  | (apply kA; exact rfl; intro _)
                  | (apply kL; (iterate 3 exact rfl); (· repeat (first | exact BS.nil _ | (apply BS.int; exact rfl) | (apply BS.ptr; exact rfl) | (apply BS.slice; exact rfl) | (apply BS.agg; iterate 2 exact rfl))); intro _)
                  | (apply kT; (iterate 2 exact rfl); (· repeat (first | exact sH _ _ _ | apply sT)); iterate 2 exact rfl)
                  | (apply kS; (iterate 2 exact rfl); (· repeat (first | exact sH _ _ _ | apply sT)); exact rfl)
                  | (apply kh; (iterate 2 exact rfl); (first | decide | omega); exact rfl)
                  | (apply kl; (iterate 2 exact rfl); (first | decide | omega); exact rfl)
                  )
                | ((first | (apply kR; (· exact rfl); (· exact rfl)) | (apply kQ; (· exact rfl))); all_goals (intro hc; try simp only [decide_eq_true_eq, decide_eq_false_iff_not, Bool.not_eq_true', Bool.not_eq_false', Bool.not_eq_true, Bool.not_eq_false, Bool.not_true, Bool.not_false, Int.not_lt, Int.not_le, List.cons.injEq, and_true, beq_iff_eq, beq_eq_false_iff_ne] at hc; try (exfalso; first | contradiction | omega)))
                )
              all_goals (
                apply DW.quiet [0, 1, 2, 3, 4, 5, 6]
                · decide +kernel
                · first | exact fun _ h => h | exact fun _ h => St.sub h (by repeat (first | exact List.Sublist.refl _ | apply List.Sublist.cons_cons | apply List.Sublist.cons))
                repeat' (
                  first
                  | (apply yp; iterate 3 exact rfl)
                  | (apply QL.ev; exact rfl
                     · first
                       | (apply Ev.load_own; (· exact rfl); (· repeat (first | exact mH _ _ | apply mT)); exact rfl)
                       | (apply Ev.load_agg; (· exact rfl); (· repeat (first | exact mH _ _ | apply mT)); exact rfl)
                       | (apply Ev.load_rdq; (· exact rfl); (· repeat (first | exact mH _ _ | apply mT)); iterate 2 exact rfl)
                       | (apply Ev.load_ardq; (· exact rfl); (· repeat (first | exact mH _ _ | apply mT)); exact rfl)
                       | (apply Ev.fieldAddr; exact rfl)
                       | (apply Ev.len; exact rfl)
                       | (apply EqOf.eq; exact rfl)
                       | (apply EqOf.ne; exact rfl)
                       | (apply Ev.conv; exact rfl)
                       | (apply Ev.buildN; exact rfl)
                       | (apply Ev.shr; (iterate 2 exact rfl); first | decide | omega)
                       | (apply Ev.shl; (iterate 2 exact rfl); first | decide | omega)
                     · exact rfl)
                  | (apply QL.evg; (iterate 3 exact rfl); (· first | (apply Ev.indexAddr; (· exact rfl); (· exact rfl); (· omega); (· omega)) | (apply Ev.load_agg_at (cs := y.row); (· exact rfl); (· exact rfl); (· intro w' hw'; exact rd_row (l := y :: bl2) (i := 0) MsgA.row_len (ownsAt_rd (hw'.holds (odB (some ⟨by_, oy, none⟩) cb2 (y :: bl2)) (by (repeat (first | exact mH _ _ | apply mT))))) (by simp) (by simp)))); (· exact rfl))
                  | (apply yq; iterate 5 exact rfl)
                  | (apply QL.evg; iterate 3 exact rfl
                     · first
                       | (apply Ev.load_own; (· exact rfl); (· repeat (first | exact mH _ _ | apply mT)); exact rfl)
                       | (apply Ev.load_agg; (· exact rfl); (· repeat (first | exact mH _ _ | apply mT)); exact rfl)
                       | (apply Ev.load_rdq; (· exact rfl); (· repeat (first | exact mH _ _ | apply mT)); iterate 2 exact rfl)
                       | (apply Ev.load_ardq; (· exact rfl); (· repeat (first | exact mH _ _ | apply mT)); exact rfl)
                       | (apply Ev.fieldAddr; exact rfl)
                       | (apply Ev.len; exact rfl)
                       | (apply EqOf.eq; exact rfl)
                       | (apply EqOf.ne; exact rfl)
                       | (apply Ev.conv; exact rfl)
                       | (apply Ev.buildN; exact rfl)
                       | (apply Ev.shr; (iterate 2 exact rfl); first | decide | omega)
                       | (apply Ev.shl; (iterate 2 exact rfl); first | decide | omega)
                     · exact rfl)
                  | (apply yn; iterate 4 exact rfl)
                  | ((apply QL.split; (· exact rfl); (· exact rfl); (· exact rfl)); all_goals (intro hc; try simp only [decide_eq_true_eq, decide_eq_false_iff_not, Bool.not_eq_true', Bool.not_eq_false', Bool.not_eq_true, Bool.not_eq_false, Bool.not_true, Bool.not_false, Int.not_lt, Int.not_le, List.cons.injEq, and_true, beq_iff_eq, beq_eq_false_iff_ne] at hc; try (exfalso; first | contradiction | omega)))
                  | apply QL.nil
                  )
                all_goals (show DW _ _ _ _ _ _ _ _))
              all_goals (
                apply DW.loud 7
                · exact rfl
                · decide +kernel
                repeat' (
                  first
                  | (apply kg; iterate 2 exact rfl)
                  | (apply kG; iterate 3 exact rfl)
                  | apply kM
                  | (
                    first
                    | (apply kp; iterate 2 exact rfl)
                    | (apply ko; (· exact rfl); (· repeat (first | exact mH _ _ | apply mT)); iterate 2 exact rfl)
                    | (apply ka; (· exact rfl); (· repeat (first | exact mH _ _ | apply mT)); iterate 2 exact rfl)
                    | (apply kL; (iterate 3 exact rfl); (· repeat (first | exact BS.nil _ | (apply BS.int; exact rfl) | (apply BS.ptr; exact rfl) | (apply BS.slice; exact rfl) | (apply BS.agg; iterate 2 exact rfl))); intro _)
                    | (apply kT; (iterate 2 exact rfl); (· repeat (first | exact sH _ _ _ | apply sT)); iterate 2 exact rfl)
                    | (apply kS; (iterate 2 exact rfl); (· repeat (first | exact sH _ _ _ | apply sT)); exact rfl)
                    | (apply kB; (iterate 2 exact rfl); intro _)
                    | (apply kA; exact rfl; intro _)
                    )
                  | (apply kq; (· exact rfl); (· intro w1 h1; have hq := CallsTo.q (c20 x.m y.m x.a y.a x.c y.c w1 (h1.rd_of_own (by (repeat (first | exact mH _ _ | apply mT)))) (bun_MR (h1.holds (bunB (y :: bl2)) (by (repeat (first | exact mH _ _ | apply mT)))) hb2 y List.mem_cons_self).hr hxl) h1; rw [show sameB x.m y.m = true by rw [hxy]; exact sameB_self _] at hq; show CallsTo Try.prog 20 [x.m.val x.a x.c, y.m.val y.a y.c] w1 _; exact hq))
                  )
                all_goals (refine At.stage_same (fun _ h => St.sub h (by repeat (first | exact List.Sublist.refl _ | apply List.Sublist.cons_cons | apply List.Sublist.cons))) ?_))
              all_goals (
                apply DW.quiet [8, 9]
                · decide +kernel
                · first | exact fun _ h => h | exact fun _ h => St.sub h (by repeat (first | exact List.Sublist.refl _ | apply List.Sublist.cons_cons | apply List.Sublist.cons))
                repeat' (
                  first
                  | (apply yp; iterate 3 exact rfl)
                  | (apply QL.ev; exact rfl
                     · first
                       | (apply Ev.load_own; (· exact rfl); (· repeat (first | exact mH _ _ | apply mT)); exact rfl)
                       | (apply Ev.load_agg; (· exact rfl); (· repeat (first | exact mH _ _ | apply mT)); exact rfl)
                       | (apply Ev.load_rdq; (· exact rfl); (· repeat (first | exact mH _ _ | apply mT)); iterate 2 exact rfl)
                       | (apply Ev.load_ardq; (· exact rfl); (· repeat (first | exact mH _ _ | apply mT)); exact rfl)
                       | (apply Ev.fieldAddr; exact rfl)
                       | (apply Ev.len; exact rfl)
                       | (apply EqOf.eq; exact rfl)
                       | (apply EqOf.ne; exact rfl)
                       | (apply Ev.conv; exact rfl)
                       | (apply Ev.buildN; exact rfl)
                       | (apply Ev.shr; (iterate 2 exact rfl); first | decide | omega)
                       | (apply Ev.shl; (iterate 2 exact rfl); first | decide | omega)
                     · exact rfl)
                  | (apply QL.evg; (iterate 3 exact rfl); (· first | (apply Ev.indexAddr; (· exact rfl); (· exact rfl); (· omega); (· omega)) | (apply Ev.load_agg_at (cs := y.row); (· exact rfl); (· exact rfl); (· intro w' hw'; exact rd_row (l := y :: bl2) (i := 0) MsgA.row_len (ownsAt_rd (hw'.holds (odB (some ⟨by_, oy, none⟩) cb2 (y :: bl2)) (by (repeat (first | exact mH _ _ | apply mT))))) (by simp) (by simp)))); (· exact rfl))
                  | (apply yq; iterate 5 exact rfl)
                  | (apply QL.evg; iterate 3 exact rfl
                     · first
                       | (apply Ev.load_own; (· exact rfl); (· repeat (first | exact mH _ _ | apply mT)); exact rfl)
                       | (apply Ev.load_agg; (· exact rfl); (· repeat (first | exact mH _ _ | apply mT)); exact rfl)
                       | (apply Ev.load_rdq; (· exact rfl); (· repeat (first | exact mH _ _ | apply mT)); iterate 2 exact rfl)
                       | (apply Ev.load_ardq; (· exact rfl); (· repeat (first | exact mH _ _ | apply mT)); exact rfl)
                       | (apply Ev.fieldAddr; exact rfl)
                       | (apply Ev.len; exact rfl)
                       | (apply EqOf.eq; exact rfl)
                       | (apply EqOf.ne; exact rfl)
                       | (apply Ev.conv; exact rfl)
                       | (apply Ev.buildN; exact rfl)
                       | (apply Ev.shr; (iterate 2 exact rfl); first | decide | omega)
                       | (apply Ev.shl; (iterate 2 exact rfl); first | decide | omega)
                     · exact rfl)
                  | (apply yn; iterate 4 exact rfl)
                  | ((apply QL.split; (· exact rfl); (· exact rfl); (· exact rfl)); all_goals (intro hc; try simp only [decide_eq_true_eq, decide_eq_false_iff_not, Bool.not_eq_true', Bool.not_eq_false', Bool.not_eq_true, Bool.not_eq_false, Bool.not_true, Bool.not_false, Int.not_lt, Int.not_le, List.cons.injEq, and_true, beq_iff_eq, beq_eq_false_iff_ne] at hc; try (exfalso; first | contradiction | omega)))
                  | apply QL.nil
                  )
                all_goals (show DW _ _ _ _ _ _ _ _))
              all_goals (first | (apply DW.done_thn; (· decide +kernel)) | (apply DW.done; (· decide +kernel)))
              repeat' (
                first
                | (
                  first
                  | (apply kp; iterate 2 exact rfl)
                  | apply ja | apply jb | apply jg | apply jj | (apply je; exact rfl) | (apply jf; exact rfl) | apply jd | apply jh | apply ji | (apply jc; kernel_rfl) | apply jk | apply jl | apply jm | apply jn | apply jo | (apply jp; exact rfl) | apply jq | apply jr | apply js | apply jt | apply ju | apply jv | apply jw | apply kN | apply kM
                  | (apply kf; iterate 2 exact rfl)
                  | (apply ko; (· exact rfl); (· repeat (first | exact mH _ _ | apply mT)); iterate 2 exact rfl)
                  | (apply ka; (· exact rfl); (· repeat (first | exact mH _ _ | apply mT)); iterate 2 exact rfl)
                  | (apply kr; (· exact rfl); (· repeat (first | exact mH _ _ | apply mT)); iterate 3 exact rfl)
                  | (apply ks; (· exact rfl); (· repeat (first | exact mH _ _ | apply mT)); iterate 2 exact rfl)
                  | (apply kn; iterate 2 exact rfl)
                  | (apply ke; iterate 2 exact rfl)
                  | (apply kx; iterate 2 exact rfl)
                  | (apply kc; iterate 2 exact rfl)
                  | (apply kb; iterate 2 exact rfl)
                  | (apply kg; iterate 2 exact rfl)
                  | (apply kG; iterate 3 exact rfl)
                  | (apply kB; (iterate 2 exact rfl); intro _)
                  | (apply kA; exact rfl; intro _)
                  | (apply kL; (iterate 3 exact rfl); (· repeat (first | exact BS.nil _ | (apply BS.int; exact rfl) | (apply BS.ptr; exact rfl) | (apply BS.slice; exact rfl) | (apply BS.agg; iterate 2 exact rfl))); intro _)
                  | (apply kT; (iterate 2 exact rfl); (· repeat (first | exact sH _ _ _ | apply sT)); iterate 2 exact rfl)
                  | (apply kS; (iterate 2 exact rfl); (· repeat (first | exact sH _ _ _ | apply sT)); exact rfl)
                  | (apply kh; (iterate 2 exact rfl); (first | decide | omega); exact rfl)
                  | (apply kl; (iterate 2 exact rfl); (first | decide | omega); exact rfl)
                  )
                | (apply LR.ev; (· apply Ev.add; (· exact rfl); (· exact rfl); (· first | omega | (dsimp only; omega)); (· first | omega | (dsimp only; omega))); (· exact rfl))
                | (apply LR.ev; (· apply Ev.slice_lo; (· exact rfl); (· exact rfl); (· first | omega | (dsimp only; omega)); (· first | omega | (dsimp only; omega))); (· exact rfl))
                | ((first | (apply kR; (· exact rfl); (· exact rfl)) | (apply kQ; (· exact rfl))); all_goals (intro hc; try simp only [decide_eq_true_eq, decide_eq_false_iff_not, Bool.not_eq_true', Bool.not_eq_false', Bool.not_eq_true, Bool.not_eq_false, Bool.not_true, Bool.not_false, Int.not_lt, Int.not_le, List.cons.injEq, and_true, beq_iff_eq, beq_eq_false_iff_ne] at hc; try (exfalso; first | contradiction | omega)))
                )
              apply At.again (k + 1, (f2 + 1) % 32, sl3, L2, subA (some ⟨by_, oy, none⟩) cb2 1 13, cb2 - 1, bl2)
              · exact ⟨by show k + 1 ≤ 40; omega, rr3, hm2.2, fun z hz => hb2 z (List.mem_cons_of_mem _ hz)⟩
              · (repeat (first | exact Out.refl _ _ | exact Out.mix | (apply Out.upd; (· exact rfl)) | (apply Out.updL; (· exact rfl)) | (apply Out.mixs; (· exact rfl))))
              · exact ⟨rfl, rfl, trivial⟩
              · intro w' hw'
                have h2 := hw'.odl_drop (l := 1) (E := 28) (sz := 13) (xs := (y :: bl2).flatMap MsgA.row) (a := some ⟨by_, oy, none⟩) (c := cb2) (k := (y :: bl2).length) (by (repeat (first | exact sH _ _ _ | apply sT))) (by simp)
                exact (front (front (St.bun_head MsgA.dep (front h2 4 rfl rfl)).tail1 4 rfl rfl) 4 rfl rfl).sub (by repeat (first | exact List.Sublist.refl _ | apply List.Sublist.cons_cons | apply List.Sublist.cons))
              · show 40 - (k + 1) < 40 - k
                omega
          · repeat' (
              first
              | (
                first
                | (apply kp; iterate 2 exact rfl)
                | apply ja | apply jb | apply jg | apply jj | (apply je; exact rfl) | (apply jf; exact rfl) | apply jd | apply jh | apply ji | (apply jc; kernel_rfl) | apply jk | apply jl | apply jm | apply jn | apply jo | (apply jp; exact rfl) | apply jq | apply jr | apply js | apply jt | apply ju | apply jv | apply jw | apply kN | apply kM
                | (apply kf; iterate 2 exact rfl)
                | (apply ko; (· exact rfl); (· repeat (first | exact mH _ _ | apply mT)); iterate 2 exact rfl)
                | (apply ka; (· exact rfl); (· repeat (first | exact mH _ _ | apply mT)); iterate 2 exact rfl)
                | (apply kr; (· exact rfl); (· repeat (first | exact mH _ _ | apply mT)); iterate 3 exact rfl)
                | (apply ks; (· exact rfl); (· repeat (first | exact mH _ _ | apply mT)); iterate 2 exact rfl)
                | (apply kn; iterate 2 exact rfl)
                | (apply ke; iterate 2 exact rfl)
                | (apply kx; iterate 2 exact rfl)
                | (apply kc; iterate 2 exact rfl)
                | (apply kb; iterate 2 exact rfl)
                | (apply kg; iterate 2 exact rfl)
                | (apply kG; iterate 3 exact rfl)
                | (apply kB; (iterate 2 exact rfl); intro _)
                | (apply kA; exact rfl; intro _)
                | (apply kL; (iterate 3 exact rfl); (· repeat (first | exact BS.nil _ | (apply BS.int; exact rfl) | (apply BS.ptr; exact rfl) | (apply BS.slice; exact rfl) | (apply BS.agg; iterate 2 exact rfl))); intro _)
                | (apply kT; (iterate 2 exact rfl); (· repeat (first | exact sH _ _ _ | apply sT)); iterate 2 exact rfl)
                | (apply kS; (iterate 2 exact rfl); (· repeat (first | exact sH _ _ _ | apply sT)); exact rfl)
                | (apply kh; (iterate 2 exact rfl); (first | decide | omega); exact rfl)
                | (apply kl; (iterate 2 exact rfl); (first | decide | omega); exact rfl)
                )
              | (apply LR.ev; (· apply Ev.indexAddr; (· exact rfl); (· exact rfl); (· first | omega | (dsimp only; omega)); (· first | omega | (dsimp only; omega))); (· exact rfl))
              | (apply LR.ev; (· apply Ev.load; (· exact rfl); (· intro w' hw'; first | (refine ldp w' (hw'.rd_of ?_) _ ?_; (· (repeat (first | exact mH _ _ | apply mT))); (· simp; done)) | (refine ldt w' (hw'.rd_of ?_) _ ?_; (· (repeat (first | exact mH _ _ | apply mT))); (· simp; done)))); (· exact rfl))
              | (apply kq; (· exact rfl); (· intro w1 h1; first | exact CallsTo.q (c46 b f2 L2.length sl2 w1 (qO_rd (h1.holds (qO b f2 sl2 L2) (by (repeat (first | exact mH _ _ | apply mT)))))) h1 | exact CallsTo.q (c48 b f2 L2.length sl2 w1 (qO_rd (h1.holds (qO b f2 sl2 L2) (by (repeat (first | exact mH _ _ | apply mT))))) hL2) h1))
              | (apply LR.ev; (· apply Ev.add; (· exact rfl); (· exact rfl); (· first | omega | (dsimp only; omega)); (· first | omega | (dsimp only; omega))); (· exact rfl))
              | ((first | (apply kR; (· exact rfl); (· exact rfl)) | (apply kQ; (· exact rfl))); all_goals (intro hc; try simp only [decide_eq_true_eq, decide_eq_false_iff_not, Bool.not_eq_true', Bool.not_eq_false', Bool.not_eq_true, Bool.not_eq_false, Bool.not_true, Bool.not_false, Int.not_lt, Int.not_le, List.cons.injEq, and_true, beq_iff_eq, beq_eq_false_iff_ne] at hc; try (exfalso; first | contradiction | omega)))
              )
            all_goals (
              apply At.again (i + 1, f2, sl2, L2, ab2, cb2, bl2)
              · exact ⟨by show i + 1 ≤ _; omega, by show i + 1 ≤ 200; omega, rr2, hm2, hb2⟩
              · (repeat (first | exact Out.refl _ _ | exact Out.mix | (apply Out.upd; (· exact rfl)) | (apply Out.updL; (· exact rfl)) | (apply Out.mixs; (· exact rfl))))
              · exact ⟨rfl, rfl, trivial⟩
              · exact fun w' hw' => hw'.sub (by repeat (first | exact List.Sublist.refl _ | apply List.Sublist.cons_cons | apply List.Sublist.cons))
              · show l.length - (i + 1) < l.length - i
                omega)
        · skip
          apply LR.call
          · exact rfl
          intro w1 h1
          have hh := put_deed (b := b) (first := f) (slots := sl) (L := L) (x := ⟨xa, xc, ms, tk⟩) h1 (by (repeat (first | exact mH _ _ | apply mT))) rr dr
          rw [qputE_ok (n := L.length) (l := ms) (allok_mem hok) (by omega)] at hh
          refine CallsTo.mono hh ?_
          clear hh
          rintro v w2 ⟨sl1, L1, rfl, rr1, m1, st⟩
          have h2 := h1.one' st rfl (qO_dep _ _ _ _) (by (repeat (first | exact sH _ _ _ | apply sT)))
          refine LR.back h2 ?_
          clear h2 h1 st
          repeat' (
            first
            | (
              first
              | (apply kp; iterate 2 exact rfl)
              | apply ja | apply jb | apply jg | apply jj | (apply je; exact rfl) | (apply jf; exact rfl) | apply jd | apply jh | apply ji | (apply jc; kernel_rfl) | apply jk | apply jl | apply jm | apply jn | apply jo | (apply jp; exact rfl) | apply jq | apply jr | apply js | apply jt | apply ju | apply jv | apply jw | apply kN | apply kM
              | (apply kf; iterate 2 exact rfl)
              | (apply ko; (· exact rfl); (· repeat (first | exact mH _ _ | apply mT)); iterate 2 exact rfl)
              | (apply ka; (· exact rfl); (· repeat (first | exact mH _ _ | apply mT)); iterate 2 exact rfl)
              | (apply kr; (· exact rfl); (· repeat (first | exact mH _ _ | apply mT)); iterate 3 exact rfl)
              | (apply ks; (· exact rfl); (· repeat (first | exact mH _ _ | apply mT)); iterate 2 exact rfl)
              | (apply kn; iterate 2 exact rfl)
              | (apply ke; iterate 2 exact rfl)
              | (apply kx; iterate 2 exact rfl)
              | (apply kc; iterate 2 exact rfl)
              | (apply kb; iterate 2 exact rfl)
              | (apply kg; iterate 2 exact rfl)
              | (apply kG; iterate 3 exact rfl)
              | (apply kB; (iterate 2 exact rfl); intro _)
              | (apply kA; exact rfl; intro _)
              | (apply kL; (iterate 3 exact rfl); (· repeat (first | exact BS.nil _ | (apply BS.int; exact rfl) | (apply BS.ptr; exact rfl) | (apply BS.slice; exact rfl) | (apply BS.agg; iterate 2 exact rfl))); intro _)
              | (apply kT; (iterate 2 exact rfl); (· repeat (first | exact sH _ _ _ | apply sT)); iterate 2 exact rfl)
              | (apply kS; (iterate 2 exact rfl); (· repeat (first | exact sH _ _ _ | apply sT)); exact rfl)
              | (apply kh; (iterate 2 exact rfl); (first | decide | omega); exact rfl)
              | (apply kl; (iterate 2 exact rfl); (first | decide | omega); exact rfl)
              )
            | (apply LR.ev; (· apply Ev.indexAddr; (· exact rfl); (· exact rfl); (· first | omega | (dsimp only; omega)); (· first | omega | (dsimp only; omega))); (· exact rfl))
            | (apply LR.ev; (· apply Ev.load; (· exact rfl); (· intro w' hw'; first | (refine ldp w' (hw'.rd_of ?_) _ ?_; (· (repeat (first | exact mH _ _ | apply mT))); (· simp; done)) | (refine ldt w' (hw'.rd_of ?_) _ ?_; (· (repeat (first | exact mH _ _ | apply mT))); (· simp; done)))); (· exact rfl))
            | (apply LR.ev; (· apply Ev.add; (· exact rfl); (· exact rfl); (· first | omega | (dsimp only; omega)); (· first | omega | (dsimp only; omega))); (· exact rfl))
            | ((first | (apply kR; (· exact rfl); (· exact rfl)) | (apply kQ; (· exact rfl))); all_goals (intro hc; try simp only [decide_eq_true_eq, decide_eq_false_iff_not, Bool.not_eq_true', Bool.not_eq_false', Bool.not_eq_true, Bool.not_eq_false, Bool.not_true, Bool.not_false, Int.not_lt, Int.not_le, List.cons.injEq, and_true, beq_iff_eq, beq_eq_false_iff_ne] at hc; try (exfalso; first | contradiction | omega)))
            )
          apply LR.call
          · exact rfl
          intro w1 h1
          refine (c40 xa xc ms w1 (h1.oldRd dr.hr) (fun y hy => (dr.hR y hy).old h1) drm).mono ?_
          rintro v w2 ⟨a1, c1, l1, rfl, e1, st⟩
          refine LR.back (h1.pushL st excl2) ?_
          have hz1 : a1 = none → l1.length = 0 ∧ c1 = 0 := fun e => ownsRow_some st.g0 e
          have k1 : ∀ x ∈ l1, Byt x.m.body ∧ x.m.body.length ≤ 140737488355328 := by
            intro x hx
            have : x.m ∈ ms.map MsgA.m := by rw [← e1]; exact List.mem_map.2 ⟨x, hx, rfl⟩
            obtain ⟨y, hy, he⟩ := List.mem_map.1 this
            rw [← he]
            exact ⟨(dr.hR y hy).hb, (dr.hR y hy).hm⟩
          clear h1 st
          have n1 : l1.length = ms.length := by have := congrArg List.length e1; simpa using this
          repeat' (
            first
            | (
              first
              | (apply kp; iterate 2 exact rfl)
              | apply ja | apply jb | apply jg | apply jj | (apply je; exact rfl) | (apply jf; exact rfl) | apply jd | apply jh | apply ji | (apply jc; kernel_rfl) | apply jk | apply jl | apply jm | apply jn | apply jo | (apply jp; exact rfl) | apply jq | apply jr | apply js | apply jt | apply ju | apply jv | apply jw | apply kN | apply kM
              | (apply kf; iterate 2 exact rfl)
              | (apply ko; (· exact rfl); (· repeat (first | exact mH _ _ | apply mT)); iterate 2 exact rfl)
              | (apply ka; (· exact rfl); (· repeat (first | exact mH _ _ | apply mT)); iterate 2 exact rfl)
              | (apply kr; (· exact rfl); (· repeat (first | exact mH _ _ | apply mT)); iterate 3 exact rfl)
              | (apply ks; (· exact rfl); (· repeat (first | exact mH _ _ | apply mT)); iterate 2 exact rfl)
              | (apply kn; iterate 2 exact rfl)
              | (apply ke; iterate 2 exact rfl)
              | (apply kx; iterate 2 exact rfl)
              | (apply kc; iterate 2 exact rfl)
              | (apply kb; iterate 2 exact rfl)
              | (apply kg; iterate 2 exact rfl)
              | (apply kG; iterate 3 exact rfl)
              | (apply kB; (iterate 2 exact rfl); intro _)
              | (apply kA; exact rfl; intro _)
              | (apply kL; (iterate 3 exact rfl); (· repeat (first | exact BS.nil _ | (apply BS.int; exact rfl) | (apply BS.ptr; exact rfl) | (apply BS.slice; exact rfl) | (apply BS.agg; iterate 2 exact rfl))); intro _)
              | (apply kT; (iterate 2 exact rfl); (· repeat (first | exact sH _ _ _ | apply sT)); iterate 2 exact rfl)
              | (apply kS; (iterate 2 exact rfl); (· repeat (first | exact sH _ _ _ | apply sT)); exact rfl)
              | (apply kh; (iterate 2 exact rfl); (first | decide | omega); exact rfl)
              | (apply kl; (iterate 2 exact rfl); (first | decide | omega); exact rfl)
              )
            | ((first | (apply kR; (· exact rfl); (· exact rfl)) | (apply kQ; (· exact rfl))); all_goals (intro hc; try simp only [decide_eq_true_eq, decide_eq_false_iff_not, Bool.not_eq_true', Bool.not_eq_false', Bool.not_eq_true, Bool.not_eq_false, Bool.not_true, Bool.not_false, Int.not_lt, Int.not_le, List.cons.injEq, and_true, beq_iff_eq, beq_eq_false_iff_ne] at hc; try (exfalso; first | contradiction | omega)))
            )
          refine LR.append_odl (xs := bl.flatMap MsgA.row) (news := l1.flatMap MsgA.row) (m := l1.length) rfl rfl (fun a' c' => by (repeat (first | exact sH _ _ _ | apply sT))) (fun w' hw' => hw'.rd_of_own (mH _ _)) hz1 (Go.Hb.rows_len MsgA.row_len l1) (row_one l1) (by omega) (by unfold maxLen; omega) rfl ?_
          intro ay cy
          repeat' (
            first
            | (
              first
              | (apply kp; iterate 2 exact rfl)
              | apply ja | apply jb | apply jg | apply jj | (apply je; exact rfl) | (apply jf; exact rfl) | apply jd | apply jh | apply ji | (apply jc; kernel_rfl) | apply jk | apply jl | apply jm | apply jn | apply jo | (apply jp; exact rfl) | apply jq | apply jr | apply js | apply jt | apply ju | apply jv | apply jw | apply kN | apply kM
              | (apply kf; iterate 2 exact rfl)
              | (apply ko; (· exact rfl); (· repeat (first | exact mH _ _ | apply mT)); iterate 2 exact rfl)
              | (apply ka; (· exact rfl); (· repeat (first | exact mH _ _ | apply mT)); iterate 2 exact rfl)
              | (apply kr; (· exact rfl); (· repeat (first | exact mH _ _ | apply mT)); iterate 3 exact rfl)
              | (apply ks; (· exact rfl); (· repeat (first | exact mH _ _ | apply mT)); iterate 2 exact rfl)
              | (apply kn; iterate 2 exact rfl)
              | (apply ke; iterate 2 exact rfl)
              | (apply kx; iterate 2 exact rfl)
              | (apply kc; iterate 2 exact rfl)
              | (apply kb; iterate 2 exact rfl)
              | (apply kg; iterate 2 exact rfl)
              | (apply kG; iterate 3 exact rfl)
              | (apply kB; (iterate 2 exact rfl); intro _)
              | (apply kA; exact rfl; intro _)
              | (apply kL; (iterate 3 exact rfl); (· repeat (first | exact BS.nil _ | (apply BS.int; exact rfl) | (apply BS.ptr; exact rfl) | (apply BS.slice; exact rfl) | (apply BS.agg; iterate 2 exact rfl))); intro _)
              | (apply kT; (iterate 2 exact rfl); (· repeat (first | exact sH _ _ _ | apply sT)); iterate 2 exact rfl)
              | (apply kS; (iterate 2 exact rfl); (· repeat (first | exact sH _ _ _ | apply sT)); exact rfl)
              | (apply kh; (iterate 2 exact rfl); (first | decide | omega); exact rfl)
              | (apply kl; (iterate 2 exact rfl); (first | decide | omega); exact rfl)
              )
            | ((first | (apply kR; (· exact rfl); (· exact rfl)) | (apply kQ; (· exact rfl))); all_goals (intro hc; try simp only [decide_eq_true_eq, decide_eq_false_iff_not, Bool.not_eq_true', Bool.not_eq_false', Bool.not_eq_true, Bool.not_eq_false, Bool.not_true, Bool.not_false, Int.not_lt, Int.not_le, List.cons.injEq, and_true, beq_iff_eq, beq_eq_false_iff_ne] at hc; try (exfalso; first | contradiction | omega)))
            )
          apply CW.loop [2, 4, 9, 10, 11, 83, 84, 85, 86, 87, 88, 89, 90, 91, 92, 93, 94, 95, 96, 97, 98, 99, 100, 101, 102, 103, 104, 105, 106, 107, 108, 109, 110, 111, 112, 113, 114, 115, 116, 117] (fun s : Nat × Nat × List MsgA × List MsgA × Option Addr × Nat × List MsgA => s.1 ≤ 40 ∧ QRep s.2.1 s.2.2.1 s.2.2.2.1 ∧ s.2.2.2.1.map MsgA.m = s.2.2.2.2.2.2.map MsgA.m ∧ ∀ x ∈ s.2.2.2.2.2.2, Byt x.m.body ∧ x.m.body.length ≤ 140737488355328) (fun s => [(9, Value.int .i64 (s.1 : Int)), (4, .slice s.2.2.2.2.1 s.2.2.2.2.2.2.length s.2.2.2.2.2.1)])
            (fun s => St w NoF [qO b s.2.1 s.2.2.1 s.2.2.2.1, odB s.2.2.2.2.1 s.2.2.2.2.2.1 s.2.2.2.2.2.2, bunB s.2.2.2.2.2.2, rdA (some ⟨ba, oa, none⟩) (l.flatMap DeedA.row)]) (fun s => 40 - s.1)
          · intro w' hw'
            refine ⟨(0, f, sl1, L1, ay, cy, bl ++ l1), ⟨by simp, rr1, by show L1.map MsgA.m = (bl ++ l1).map MsgA.m; rw [m1, if_pos rfl, hm1, List.map_append, e1], fun z hz => (List.mem_append.1 hz).elim (hb z) (k1 z)⟩, ⟨rfl, by show Value.slice ay (bl.length + l1.length) cy = .slice ay (bl ++ l1).length cy; simp, trivial⟩, ?_⟩
            rw [show odl (Value.slice ay (bl.length + l1.length) cy) 28 13 (bl.length + l1.length) (List.flatMap MsgA.row bl ++ List.flatMap MsgA.row l1) = odB ay cy (bl ++ l1) by simp [odB, List.flatMap_append]] at hw'
            have h2 := St.bun_append (f := MsgA.body) (l := bl) (r := l1) MsgA.dep (front (front hw' 1 rfl rfl) 4 rfl rfl)
            have h3 := front (front h2 3 rfl rfl) 3 rfl rfl
            exact h3.sub (by repeat (first | exact List.Sublist.refl _ | apply List.Sublist.cons_cons | apply List.Sublist.cons))
          rintro ⟨k, f2, sl2, L2, ab2, cb2, bl2⟩ g2 ⟨hk, rr2, hm2, hb2⟩
          simp only at hk rr2 hm2 hb2 ⊢
          have hq2 : L2.length = bl2.length := by have := congrArg List.length hm2; simpa using this
          have hL2 := rr2.hL
          by_cases hlt2 : (k : Int) < tk ∧ k < 40
          · obtain ⟨hk1, hk2⟩ := hlt2
            rcases L2 with _ | ⟨x, L2⟩
            · have hbl : bl2 = [] := List.eq_nil_of_length_eq_zero hq2.symm
              subst hbl
              repeat' (
                first
                | (
                  first
                  | (apply kp; iterate 2 exact rfl)
                  | apply ja | apply jb | apply jg | apply jj | (apply je; exact rfl) | (apply jf; exact rfl) | apply jd | apply jh | apply ji | (apply jc; kernel_rfl) | apply jk | apply jl | apply jm | apply jn | apply jo | (apply jp; exact rfl) | apply jq | apply jr | apply js | apply jt | apply ju | apply jv | apply jw | apply kN | apply kM
                  | (apply kf; iterate 2 exact rfl)
                  | (apply ko; (· exact rfl); (· repeat (first | exact mH _ _ | apply mT)); iterate 2 exact rfl)
                  | (apply ka; (· exact rfl); (· repeat (first | exact mH _ _ | apply mT)); iterate 2 exact rfl)
                  | (apply kr; (· exact rfl); (· repeat (first | exact mH _ _ | apply mT)); iterate 3 exact rfl)
                  | (apply ks; (· exact rfl); (· repeat (first | exact mH _ _ | apply mT)); iterate 2 exact rfl)
                  | (apply kn; iterate 2 exact rfl)
                  | (apply ke; iterate 2 exact rfl)
                  | (apply kx; iterate 2 exact rfl)
                  | (apply kc; iterate 2 exact rfl)
                  | (apply kb; iterate 2 exact rfl)
                  | (apply kg; iterate 2 exact rfl)
                  | (apply kG; iterate 3 exact rfl)
                  | (apply kB; (iterate 2 exact rfl); intro _)
                  | (apply kA; exact rfl; intro _)
                  | (apply kL; (iterate 3 exact rfl); (· repeat (first | exact BS.nil _ | (apply BS.int; exact rfl) | (apply BS.ptr; exact rfl) | (apply BS.slice; exact rfl) | (apply BS.agg; iterate 2 exact rfl))); intro _)
                  | (apply kT; (iterate 2 exact rfl); (· repeat (first | exact sH _ _ _ | apply sT)); iterate 2 exact rfl)
                  | (apply kS; (iterate 2 exact rfl); (· repeat (first | exact sH _ _ _ | apply sT)); exact rfl)
                  | (apply kh; (iterate 2 exact rfl); (first | decide | omega); exact rfl)
                  | (apply kl; (iterate 2 exact rfl); (first | decide | omega); exact rfl)
                  )
                | (apply LR.ev; (· apply Ev.indexAddr; (· exact rfl); (· exact rfl); (· first | omega | (dsimp only; omega)); (· first | omega | (dsimp only; omega))); (· exact rfl))
                | (apply LR.ev; (· apply Ev.load; (· exact rfl); (· intro w' hw'; first | (refine ldp w' (hw'.rd_of ?_) _ ?_; (· (repeat (first | exact mH _ _ | apply mT))); (· simp; done)) | (refine ldt w' (hw'.rd_of ?_) _ ?_; (· (repeat (first | exact mH _ _ | apply mT))); (· simp; done)))); (· exact rfl))
                | (apply kq; (· exact rfl); (· intro w1 h1; first | exact CallsTo.q (c44e b f2 sl2 w1 (qO_rd (h1.holds (qO b f2 sl2 []) (by (repeat (first | exact mH _ _ | apply mT)))))) h1 | exact CallsTo.q (c46 b f2 0 sl2 w1 (qO_rd (h1.holds (qO b f2 sl2 []) (by (repeat (first | exact mH _ _ | apply mT)))))) h1 | exact CallsTo.q (c48 b f2 0 sl2 w1 (qO_rd (h1.holds (qO b f2 sl2 []) (by (repeat (first | exact mH _ _ | apply mT))))) (by omega)) h1))
                | (apply LR.ev; (· apply Ev.add; (· exact rfl); (· exact rfl); (· first | omega | (dsimp only; omega)); (· first | omega | (dsimp only; omega))); (· exact rfl))
                | ((first | (apply kR; (· exact rfl); (· exact rfl)) | (apply kQ; (· exact rfl))); all_goals (intro hc; try simp only [decide_eq_true_eq, decide_eq_false_iff_not, Bool.not_eq_true', Bool.not_eq_false', Bool.not_eq_true, Bool.not_eq_false, Bool.not_true, Bool.not_false, Int.not_lt, Int.not_le, List.cons.injEq, and_true, beq_iff_eq, beq_eq_false_iff_ne] at hc; try (exfalso; first | contradiction | omega)))
                )
              apply At.again (i + 1, f2, sl2, [], ab2, cb2, [])
              · exact ⟨by show i + 1 ≤ _; omega, by show i + 1 ≤ 200; omega, rr2, hm2, hb2⟩
              · (repeat (first | exact Out.refl _ _ | exact Out.mix | (apply Out.upd; (· exact rfl)) | (apply Out.updL; (· exact rfl)) | (apply Out.mixs; (· exact rfl))))
              · exact ⟨rfl, rfl, trivial⟩
              · exact fun w' hw' => hw'.sub (by repeat (first | exact List.Sublist.refl _ | apply List.Sublist.cons_cons | apply List.Sublist.cons))
              · show l.length - (i + 1) < l.length - i
                omega
            · rcases bl2 with _ | ⟨y, bl2⟩
              · simp at hq2
              simp only [List.map_cons, List.cons.injEq] at hm2
              have hxy := hm2.1
              have hby := hb2 y List.mem_cons_self
              refine LR_cls_cw fun w1 hw1 => ?_
              obtain ⟨by_, oy, rfl⟩ := (ownsAt_rd (hw1.holds (odB ab2 cb2 (y :: bl2)) (by (repeat (first | exact mH _ _ | apply mT))))).form (by simp [MsgA.row, Msg.cells])
              refine CW.sub (D := St w NoF _) ?_ (fun u e => e ▸ hw1)
              clear hw1 w1
              repeat' (
                first
                | (
                  first
                  | (apply kp; iterate 2 exact rfl)
                  | apply ja | apply jb | apply jg | apply jj | (apply je; exact rfl) | (apply jf; exact rfl) | apply jd | apply jh | apply ji | (apply jc; kernel_rfl) | apply jk | apply jl | apply jm | apply jn | apply jo | (apply jp; exact rfl) | apply jq | apply jr | apply js | apply jt | apply ju | apply jv | apply jw | apply kN | apply kM
                  | (apply kf; iterate 2 exact rfl)
                  | (apply ko; (· exact rfl); (· repeat (first | exact mH _ _ | apply mT)); iterate 2 exact rfl)
                  | (apply ka; (· exact rfl); (· repeat (first | exact mH _ _ | apply mT)); iterate 2 exact rfl)
                  | (apply kr; (· exact rfl); (· repeat (first | exact mH _ _ | apply mT)); iterate 3 exact rfl)
                  | (apply ks; (· exact rfl); (· repeat (first | exact mH _ _ | apply mT)); iterate 2 exact rfl)
                  | (apply kn; iterate 2 exact rfl)
                  | (apply ke; iterate 2 exact rfl)
                  | (apply kx; iterate 2 exact rfl)
                  | (apply kc; iterate 2 exact rfl)
                  | (apply kb; iterate 2 exact rfl)
                  | (apply kg; iterate 2 exact rfl)
                  | (apply kG; iterate 3 exact rfl)
                  | (apply kB; (iterate 2 exact rfl); intro _)
                  | (apply kA; exact rfl; intro _)
                  | (apply kL; (iterate 3 exact rfl); (· repeat (first | exact BS.nil _ | (apply BS.int; exact rfl) | (apply BS.ptr; exact rfl) | (apply BS.slice; exact rfl) | (apply BS.agg; iterate 2 exact rfl))); intro _)
                  | (apply kT; (iterate 2 exact rfl); (· repeat (first | exact sH _ _ _ | apply sT)); iterate 2 exact rfl)
                  | (apply kS; (iterate 2 exact rfl); (· repeat (first | exact sH _ _ _ | apply sT)); exact rfl)
                  | (apply kh; (iterate 2 exact rfl); (first | decide | omega); exact rfl)
                  | (apply kl; (iterate 2 exact rfl); (first | decide | omega); exact rfl)
                  )
                | (apply LR.ev; (· apply Ev.indexAddr; (· exact rfl); (· exact rfl); (· first | omega | (dsimp only; omega)); (· first | omega | (dsimp only; omega))); (· exact rfl))
                | (apply LR.ev; (· apply Ev.load; (· exact rfl); (· intro w' hw'; first | (refine ldp w' (hw'.rd_of ?_) _ ?_; (· (repeat (first | exact mH _ _ | apply mT))); (· simp; done)) | (refine ldt w' (hw'.rd_of ?_) _ ?_; (· (repeat (first | exact mH _ _ | apply mT))); (· simp; done)))); (· exact rfl))
                | ((first | (apply kR; (· exact rfl); (· exact rfl)) | (apply kQ; (· exact rfl))); all_goals (intro hc; try simp only [decide_eq_true_eq, decide_eq_false_iff_not, Bool.not_eq_true', Bool.not_eq_false', Bool.not_eq_true, Bool.not_eq_false, Bool.not_true, Bool.not_false, Int.not_lt, Int.not_le, List.cons.injEq, and_true, beq_iff_eq, beq_eq_false_iff_ne] at hc; try (exfalso; first | contradiction | omega)))
                )
              apply LR.call
              · exact rfl
              intro w1 h1
              refine (take_own b f2 sl2 L2 x w1 (h1.holds (qO b f2 sl2 (x :: L2)) (by (repeat (first | exact mH _ _ | apply mT)))) rr2).mono ?_
              rintro v w2 ⟨rfl, sl3, rr3, st⟩
              have h2 := h1.two st rfl rfl rfl (by (repeat (first | exact sH _ _ _ | apply sT)))
              refine LR.back h2 ?_
              clear h2 h1 st
              have hxl : x.m.body.length ≤ 140737488355328 := by rw [hxy]; exact hby.2
              have hl2 : (y :: bl2).length = bl2.length + 1 := rfl
              repeat' (
                first
                | (apply CW.reg_heldC)
                | (
                  first
                  | (apply kp; iterate 2 exact rfl)
                  | apply ja | apply jb | apply jg | apply jj | (apply je; exact rfl) | (apply jf; exact rfl) | apply jd | apply jh | apply ji | (apply jc; kernel_rfl) | apply jk | apply jl | apply jm | apply jn | apply jo | (apply jp; exact rfl) | apply jq | apply jr | apply js | apply jt | apply ju | apply jv | apply jw | apply kN | apply kM
                  | (apply kf; iterate 2 exact rfl)
                  | (apply ko; (· exact rfl); (· repeat (first | exact mH _ _ | apply mT)); iterate 2 exact rfl)
                  | (apply ka; (· exact rfl); (· repeat (first | exact mH _ _ | apply mT)); iterate 2 exact rfl)
                  | (apply kr; (· exact rfl); (· repeat (first | exact mH _ _ | apply mT)); iterate 3 exact rfl)
                  | (apply ks; (· exact rfl); (· repeat (first | exact mH _ _ | apply mT)); iterate 2 exact rfl)
                  | (apply kn; iterate 2 exact rfl)
                  | (apply ke; iterate 2 exact rfl)
                  | (apply kx; iterate 2 exact rfl)
                  | (apply kc; iterate 2 exact rfl)
                  | (apply kb; iterate 2 exact rfl)
                  | (apply kg; iterate 2 exact rfl)
                  | (apply kG; iterate 3 exact rfl)
                  | (apply kB; (iterate 2 exact rfl); intro _)
                  | (apply kA; exact rfl; intro _)
                  | (apply kL; (iterate 3 exact rfl); (· repeat (first | exact BS.nil _ | (apply BS.int; exact rfl) | (apply BS.ptr; exact rfl) | (apply BS.slice; exact rfl) | (apply BS.agg; iterate 2 exact rfl))); intro _)
                  | (apply kT; (iterate 2 exact rfl); (· repeat (first | exact sH _ _ _ | apply sT)); iterate 2 exact rfl)
                  | (apply kS; (iterate 2 exact rfl); (· repeat (first | exact sH _ _ _ | apply sT)); exact rfl)
                  | (apply kh; (iterate 2 exact rfl); (first | decide | omega); exact rfl)
                  | (apply kl; (iterate 2 exact rfl); (first | decide | omega); exact rfl)
                  )
                | ((first | (apply kR; (· exact rfl); (· exact rfl)) | (apply kQ; (· exact rfl))); all_goals (intro hc; try simp only [decide_eq_true_eq, decide_eq_false_iff_not, Bool.not_eq_true', Bool.not_eq_false', Bool.not_eq_true, Bool.not_eq_false, Bool.not_true, Bool.not_false, Int.not_lt, Int.not_le, List.cons.injEq, and_true, beq_iff_eq, beq_eq_false_iff_ne] at hc; try (exfalso; first | contradiction | omega)))
                )
              all_goals (
                apply DW.quiet [0, 1, 2, 3, 4, 5, 6]
                · decide +kernel
                · first | exact fun _ h => h | exact fun _ h => St.sub h (by repeat (first | exact List.Sublist.refl _ | apply List.Sublist.cons_cons | apply List.Sublist.cons))
                repeat' (
                  first
                  | (apply yp; iterate 3 exact rfl)
                  | (apply QL.ev; exact rfl
                     · first
                       | (apply Ev.load_own; (· exact rfl); (· repeat (first | exact mH _ _ | apply mT)); exact rfl)
                       | (apply Ev.load_agg; (· exact rfl); (· repeat (first | exact mH _ _ | apply mT)); exact rfl)
                       | (apply Ev.load_rdq; (· exact rfl); (· repeat (first | exact mH _ _ | apply mT)); iterate 2 exact rfl)
                       | (apply Ev.load_ardq; (· exact rfl); (· repeat (first | exact mH _ _ | apply mT)); exact rfl)
                       | (apply Ev.fieldAddr; exact rfl)
                       | (apply Ev.len; exact rfl)
                       | (apply EqOf.eq; exact rfl)
                       | (apply EqOf.ne; exact rfl)
                       | (apply Ev.conv; exact rfl)
                       | (apply Ev.buildN; exact rfl)
                       | (apply Ev.shr; (iterate 2 exact rfl); first | decide | omega)
                       | (apply Ev.shl; (iterate 2 exact rfl); first | decide | omega)
                     · exact rfl)
                  | (apply QL.evg; (iterate 3 exact rfl); (· first | (apply Ev.indexAddr; (· exact rfl); (· exact rfl); (· omega); (· omega)) | (apply Ev.load_agg_at (cs := y.row); (· exact rfl); (· exact rfl); (· intro w' hw'; exact rd_row (l := y :: bl2) (i := 0) MsgA.row_len (ownsAt_rd (hw'.holds (odB (some ⟨by_, oy, none⟩) cb2 (y :: bl2)) (by (repeat (first | exact mH _ _ | apply mT))))) (by simp) (by simp)))); (· exact rfl))
                  | (apply yq; iterate 5 exact rfl)
                  | (apply QL.evg; iterate 3 exact rfl
                     · first
                       | (apply Ev.load_own; (· exact rfl); (· repeat (first | exact mH _ _ | apply mT)); exact rfl)
                       | (apply Ev.load_agg; (· exact rfl); (· repeat (first | exact mH _ _ | apply mT)); exact rfl)
                       | (apply Ev.load_rdq; (· exact rfl); (· repeat (first | exact mH _ _ | apply mT)); iterate 2 exact rfl)
                       | (apply Ev.load_ardq; (· exact rfl); (· repeat (first | exact mH _ _ | apply mT)); exact rfl)
                       | (apply Ev.fieldAddr; exact rfl)
                       | (apply Ev.len; exact rfl)
                       | (apply EqOf.eq; exact rfl)
                       | (apply EqOf.ne; exact rfl)
                       | (apply Ev.conv; exact rfl)
                       | (apply Ev.buildN; exact rfl)
                       | (apply Ev.shr; (iterate 2 exact rfl); first | decide | omega)
                       | (apply Ev.shl; (iterate 2 exact rfl); first | decide | omega)
                     · exact rfl)
                  | (apply yn; iterate 4 exact rfl)
                  | ((apply QL.split; (· exact rfl); (· exact rfl); (· exact rfl)); all_goals (intro hc; try simp only [decide_eq_true_eq, decide_eq_false_iff_not, Bool.not_eq_true', Bool.not_eq_false', Bool.not_eq_true, Bool.not_eq_false, Bool.not_true, Bool.not_false, Int.not_lt, Int.not_le, List.cons.injEq, and_true, beq_iff_eq, beq_eq_false_iff_ne] at hc; try (exfalso; first | contradiction | omega)))
                  | apply QL.nil
                  )
                all_goals (show DW _ _ _ _ _ _ _ _))
              all_goals (
                apply DW.loud 7
                · exact rfl
                · decide +kernel
                repeat' (
                  first
                  | (apply kg; iterate 2 exact rfl)
                  | (apply kG; iterate 3 exact rfl)
                  | apply kM
                  | (
                    first
                    | (apply kp; iterate 2 exact rfl)
                    | (apply ko; (· exact rfl); (· repeat (first | exact mH _ _ | apply mT)); iterate 2 exact rfl)
                    | (apply ka; (· exact rfl); (· repeat (first | exact mH _ _ | apply mT)); iterate 2 exact rfl)
                    | (apply kL; (iterate 3 exact rfl); (· repeat (first | exact BS.nil _ | (apply BS.int; exact rfl) | (apply BS.ptr; exact rfl) | (apply BS.slice; exact rfl) | (apply BS.agg; iterate 2 exact rfl))); intro _)
                    | (apply kT; (iterate 2 exact rfl); (· repeat (first | exact sH _ _ _ | apply sT)); iterate 2 exact rfl)
                    | (apply kS; (iterate 2 exact rfl); (· repeat (first | exact sH _ _ _ | apply sT)); exact rfl)
                    | (apply kB; (iterate 2 exact rfl); intro _)
                    | (apply kA; exact rfl; intro _)
                    )
                  | (apply kq; (· exact rfl); (· intro w1 h1; have hq := CallsTo.q (c20 x.m y.m x.a y.a x.c y.c w1 (h1.rd_of_own (by (repeat (first | exact mH _ _ | apply mT)))) (bun_MR (h1.holds (bunB (y :: bl2)) (by (repeat (first | exact mH _ _ | apply mT)))) hb2 y List.mem_cons_self).hr hxl) h1; rw [show sameB x.m y.m = true by rw [hxy]; exact sameB_self _] at hq; show CallsTo Try.prog 20 [x.m.val x.a x.c, y.m.val y.a y.c] w1 _; exact hq))
                  )
                all_goals (refine At.stage_same (fun _ h => St.sub h (by repeat (first | exact List.Sublist.refl _ | apply List.Sublist.cons_cons | apply List.Sublist.cons))) ?_))
              all_goals (
                apply DW.quiet [8, 9]
                · decide +kernel
                · first | exact fun _ h => h | exact fun _ h => St.sub h (by repeat (first | exact List.Sublist.refl _ | apply List.Sublist.cons_cons | apply List.Sublist.cons))
                repeat' (
                  first
                  | (apply yp; iterate 3 exact rfl)
                  | (apply QL.ev; exact rfl
                     · first
                       | (apply Ev.load_own; (· exact rfl); (· repeat (first | exact mH _ _ | apply mT)); exact rfl)
                       | (apply Ev.load_agg; (· exact rfl); (· repeat (first | exact mH _ _ | apply mT)); exact rfl)
                       | (apply Ev.load_rdq; (· exact rfl); (· repeat (first | exact mH _ _ | apply mT)); iterate 2 exact rfl)
                       | (apply Ev.load_ardq; (· exact rfl); (· repeat (first | exact mH _ _ | apply mT)); exact rfl)
                       | (apply Ev.fieldAddr; exact rfl)
                       | (apply Ev.len; exact rfl)
                       | (apply EqOf.eq; exact rfl)
                       | (apply EqOf.ne; exact rfl)
                       | (apply Ev.conv; exact rfl)
                       | (apply Ev.buildN; exact rfl)
                       | (apply Ev.shr; (iterate 2 exact rfl); first | decide | omega)
                       | (apply Ev.shl; (iterate 2 exact rfl); first | decide | omega)
                     · exact rfl)
                  | (apply QL.evg; (iterate 3 exact rfl); (· first | (apply Ev.indexAddr; (· exact rfl); (· exact rfl); (· omega); (· omega)) | (apply Ev.load_agg_at (cs := y.row); (· exact rfl); (· exact rfl); (· intro w' hw'; exact rd_row (l := y :: bl2) (i := 0) MsgA.row_len (ownsAt_rd (hw'.holds (odB (some ⟨by_, oy, none⟩) cb2 (y :: bl2)) (by (repeat (first | exact mH _ _ | apply mT))))) (by simp) (by simp)))); (· exact rfl))
                  | (apply yq; iterate 5 exact rfl)
                  | (apply QL.evg; iterate 3 exact rfl
                     · first
                       | (apply Ev.load_own; (· exact rfl); (· repeat (first | exact mH _ _ | apply mT)); exact rfl)
                       | (apply Ev.load_agg; (· exact rfl); (· repeat (first | exact mH _ _ | apply mT)); exact rfl)
                       | (apply Ev.load_rdq; (· exact rfl); (· repeat (first | exact mH _ _ | apply mT)); iterate 2 exact rfl)
                       | (apply Ev.load_ardq; (· exact rfl); (· repeat (first | exact mH _ _ | apply mT)); exact rfl)
                       | (apply Ev.fieldAddr; exact rfl)
                       | (apply Ev.len; exact rfl)
                       | (apply EqOf.eq; exact rfl)
                       | (apply EqOf.ne; exact rfl)
                       | (apply Ev.conv; exact rfl)
                       | (apply Ev.buildN; exact rfl)
                       | (apply Ev.shr; (iterate 2 exact rfl); first | decide | omega)
                       | (apply Ev.shl; (iterate 2 exact rfl); first | decide | omega)
                     · exact rfl)
                  | (apply yn; iterate 4 exact rfl)
                  | ((apply QL.split; (· exact rfl); (· exact rfl); (· exact rfl)); all_goals (intro hc; try simp only [decide_eq_true_eq, decide_eq_false_iff_not, Bool.not_eq_true', Bool.not_eq_false', Bool.not_eq_true, Bool.not_eq_false, Bool.not_true, Bool.not_false, Int.not_lt, Int.not_le, List.cons.injEq, and_true, beq_iff_eq, beq_eq_false_iff_ne] at hc; try (exfalso; first | contradiction | omega)))
                  | apply QL.nil
                  )
                all_goals (show DW _ _ _ _ _ _ _ _))
              all_goals (first | (apply DW.done_thn; (· decide +kernel)) | (apply DW.done; (· decide +kernel)))
              repeat' (
                first
                | (
                  first
                  | (apply kp; iterate 2 exact rfl)
                  | apply ja | apply jb | apply jg | apply jj | (apply je; exact rfl) | (apply jf; exact rfl) | apply jd | apply jh | apply ji | (apply jc; kernel_rfl) | apply jk | apply jl | apply jm | apply jn | apply jo | (apply jp; exact rfl) | apply jq | apply jr | apply js | apply jt | apply ju | apply jv | apply jw | apply kN | apply kM
                  | (apply kf; iterate 2 exact rfl)
                  | (apply ko; (· exact rfl); (· repeat (first | exact mH _ _ | apply mT)); iterate 2 exact rfl)
                  | (apply ka; (· exact rfl); (· repeat (first | exact mH _ _ | apply mT)); iterate 2 exact rfl)
                  | (apply kr; (· exact rfl); (· repeat (first | exact mH _ _ | apply mT)); iterate 3 exact rfl)
                  | (apply ks; (· exact rfl); (· repeat (first | exact mH _ _ | apply mT)); iterate 2 exact rfl)
                  | (apply kn; iterate 2 exact rfl)
                  | (apply ke; iterate 2 exact rfl)
                  | (apply kx; iterate 2 exact rfl)
                  | (apply kc; iterate 2 exact rfl)
                  | (apply kb; iterate 2 exact rfl)
                  | (apply kg; iterate 2 exact rfl)
                  | (apply kG; iterate 3 exact rfl)
                  | (apply kB; (iterate 2 exact rfl); intro _)
                  | (apply kA; exact rfl; intro _)
                  | (apply kL; (iterate 3 exact rfl); (· repeat (first | exact BS.nil _ | (apply BS.int; exact rfl) | (apply BS.ptr; exact rfl) | (apply BS.slice; exact rfl) | (apply BS.agg; iterate 2 exact rfl))); intro _)
                  | (apply kT; (iterate 2 exact rfl); (· repeat (first | exact sH _ _ _ | apply sT)); iterate 2 exact rfl)
                  | (apply kS; (iterate 2 exact rfl); (· repeat (first | exact sH _ _ _ | apply sT)); exact rfl)
                  | (apply kh; (iterate 2 exact rfl); (first | decide | omega); exact rfl)
                  | (apply kl; (iterate 2 exact rfl); (first | decide | omega); exact rfl)
                  )
                | (apply LR.ev; (· apply Ev.add; (· exact rfl); (· exact rfl); (· first | omega | (dsimp only; omega)); (· first | omega | (dsimp only; omega))); (· exact rfl))
                | (apply LR.ev; (· apply Ev.slice_lo; (· exact rfl); (· exact rfl); (· first | omega | (dsimp only; omega)); (· first | omega | (dsimp only; omega))); (· exact rfl))
                | ((first | (apply kR; (· exact rfl); (· exact rfl)) | (apply kQ; (· exact rfl))); all_goals (intro hc; try simp only [decide_eq_true_eq, decide_eq_false_iff_not, Bool.not_eq_true', Bool.not_eq_false', Bool.not_eq_true, Bool.not_eq_false, Bool.not_true, Bool.not_false, Int.not_lt, Int.not_le, List.cons.injEq, and_true, beq_iff_eq, beq_eq_false_iff_ne] at hc; try (exfalso; first | contradiction | omega)))
                )
              apply At.again (k + 1, (f2 + 1) % 32, sl3, L2, subA (some ⟨by_, oy, none⟩) cb2 1 13, cb2 - 1, bl2)
              · exact ⟨by show k + 1 ≤ 40; omega, rr3, hm2.2, fun z hz => hb2 z (List.mem_cons_of_mem _ hz)⟩
              · (repeat (first | exact Out.refl _ _ | exact Out.mix | (apply Out.upd; (· exact rfl)) | (apply Out.updL; (· exact rfl)) | (apply Out.mixs; (· exact rfl))))
              · exact ⟨rfl, rfl, trivial⟩
              · intro w' hw'
                have h2 := hw'.odl_drop (l := 1) (E := 28) (sz := 13) (xs := (y :: bl2).flatMap MsgA.row) (a := some ⟨by_, oy, none⟩) (c := cb2) (k := (y :: bl2).length) (by (repeat (first | exact sH _ _ _ | apply sT))) (by simp)
                exact (front (front (St.bun_head MsgA.dep (front h2 4 rfl rfl)).tail1 4 rfl rfl) 4 rfl rfl).sub (by repeat (first | exact List.Sublist.refl _ | apply List.Sublist.cons_cons | apply List.Sublist.cons))
              · show 40 - (k + 1) < 40 - k
                omega
          · repeat' (
              first
              | (
                first
                | (apply kp; iterate 2 exact rfl)
                | apply ja | apply jb | apply jg | apply jj | (apply je; exact rfl) | (apply jf; exact rfl) | apply jd | apply jh | apply ji | (apply jc; kernel_rfl) | apply jk | apply jl | apply jm | apply jn | apply jo | (apply jp; exact rfl) | apply jq | apply jr | apply js | apply jt | apply ju | apply jv | apply jw | apply kN | apply kM
                | (apply kf; iterate 2 exact rfl)
                | (apply ko; (· exact rfl); (· repeat (first | exact mH _ _ | apply mT)); iterate 2 exact rfl)
                | (apply ka; (· exact rfl); (· repeat (first | exact mH _ _ | apply mT)); iterate 2 exact rfl)
                | (apply kr; (· exact rfl); (· repeat (first | exact mH _ _ | apply mT)); iterate 3 exact rfl)
                | (apply ks; (· exact rfl); (· repeat (first | exact mH _ _ | apply mT)); iterate 2 exact rfl)
                | (apply kn; iterate 2 exact rfl)
                | (apply ke; iterate 2 exact rfl)
                | (apply kx; iterate 2 exact rfl)
                | (apply kc; iterate 2 exact rfl)
                | (apply kb; iterate 2 exact rfl)
                | (apply kg; iterate 2 exact rfl)
                | (apply kG; iterate 3 exact rfl)
                | (apply kB; (iterate 2 exact rfl); intro _)
                | (apply kA; exact rfl; intro _)
                | (apply kL; (iterate 3 exact rfl); (· repeat (first | exact BS.nil _ | (apply BS.int; exact rfl) | (apply BS.ptr; exact rfl) | (apply BS.slice; exact rfl) | (apply BS.agg; iterate 2 exact rfl))); intro _)
                | (apply kT; (iterate 2 exact rfl); (· repeat (first | exact sH _ _ _ | apply sT)); iterate 2 exact rfl)
                | (apply kS; (iterate 2 exact rfl); (· repeat (first | exact sH _ _ _ | apply sT)); exact rfl)
                | (apply kh; (iterate 2 exact rfl); (first | decide | omega); exact rfl)
                | (apply kl; (iterate 2 exact rfl); (first | decide | omega); exact rfl)
                )
              | (apply LR.ev; (· apply Ev.indexAddr; (· exact rfl); (· exact rfl); (· first | omega | (dsimp only; omega)); (· first | omega | (dsimp only; omega))); (· exact rfl))
              | (apply LR.ev; (· apply Ev.load; (· exact rfl); (· intro w' hw'; first | (refine ldp w' (hw'.rd_of ?_) _ ?_; (· (repeat (first | exact mH _ _ | apply mT))); (· simp; done)) | (refine ldt w' (hw'.rd_of ?_) _ ?_; (· (repeat (first | exact mH _ _ | apply mT))); (· simp; done)))); (· exact rfl))
              | (apply kq; (· exact rfl); (· intro w1 h1; first | exact CallsTo.q (c46 b f2 L2.length sl2 w1 (qO_rd (h1.holds (qO b f2 sl2 L2) (by (repeat (first | exact mH _ _ | apply mT)))))) h1 | exact CallsTo.q (c48 b f2 L2.length sl2 w1 (qO_rd (h1.holds (qO b f2 sl2 L2) (by (repeat (first | exact mH _ _ | apply mT))))) hL2) h1))
              | (apply LR.ev; (· apply Ev.add; (· exact rfl); (· exact rfl); (· first | omega | (dsimp only; omega)); (· first | omega | (dsimp only; omega))); (· exact rfl))
              | ((first | (apply kR; (· exact rfl); (· exact rfl)) | (apply kQ; (· exact rfl))); all_goals (intro hc; try simp only [decide_eq_true_eq, decide_eq_false_iff_not, Bool.not_eq_true', Bool.not_eq_false', Bool.not_eq_true, Bool.not_eq_false, Bool.not_true, Bool.not_false, Int.not_lt, Int.not_le, List.cons.injEq, and_true, beq_iff_eq, beq_eq_false_iff_ne] at hc; try (exfalso; first | contradiction | omega)))
              )
            all_goals (
              apply At.again (i + 1, f2, sl2, L2, ab2, cb2, bl2)
              · exact ⟨by show i + 1 ≤ _; omega, by show i + 1 ≤ 200; omega, rr2, hm2, hb2⟩
              · (repeat (first | exact Out.refl _ _ | exact Out.mix | (apply Out.upd; (· exact rfl)) | (apply Out.updL; (· exact rfl)) | (apply Out.mixs; (· exact rfl))))
              · exact ⟨rfl, rfl, trivial⟩
              · exact fun w' hw' => hw'.sub (by repeat (first | exact List.Sublist.refl _ | apply List.Sublist.cons_cons | apply List.Sublist.cons))
              · show l.length - (i + 1) < l.length - i
                omega)
  · repeat' (
      first
      | (
        first
        | (apply kp; iterate 2 exact rfl)
        | apply ja | apply jb | apply jg | apply jj | (apply je; exact rfl) | (apply jf; exact rfl) | apply jd | apply jh | apply ji | (apply jc; kernel_rfl) | apply jk | apply jl | apply jm | apply jn | apply jo | (apply jp; exact rfl) | apply jq | apply jr | apply js | apply jt | apply ju | apply jv | apply jw | apply kN | apply kM
        | (apply kf; iterate 2 exact rfl)
        | (apply ko; (· exact rfl); (· repeat (first | exact mH _ _ | apply mT)); iterate 2 exact rfl)
        | (apply ka; (· exact rfl); (· repeat (first | exact mH _ _ | apply mT)); iterate 2 exact rfl)
        | (apply kr; (· exact rfl); (· repeat (first | exact mH _ _ | apply mT)); iterate 3 exact rfl)
        | (apply ks; (· exact rfl); (· repeat (first | exact mH _ _ | apply mT)); iterate 2 exact rfl)
        | (apply kn; iterate 2 exact rfl)
        | (apply ke; iterate 2 exact rfl)
        | (apply kx; iterate 2 exact rfl)
        | (apply kc; iterate 2 exact rfl)
        | (apply kb; iterate 2 exact rfl)
        | (apply kg; iterate 2 exact rfl)
        | (apply kG; iterate 3 exact rfl)
        | (apply kB; (iterate 2 exact rfl); intro _)
        | (apply kA; exact rfl; intro _)
        | (apply kL; (iterate 3 exact rfl); (· repeat (first | exact BS.nil _ | (apply BS.int; exact rfl) | (apply BS.ptr; exact rfl) | (apply BS.slice; exact rfl) | (apply BS.agg; iterate 2 exact rfl))); intro _)
        | (apply kT; (iterate 2 exact rfl); (· repeat (first | exact sH _ _ _ | apply sT)); iterate 2 exact rfl)
        | (apply kS; (iterate 2 exact rfl); (· repeat (first | exact sH _ _ _ | apply sT)); exact rfl)
        | (apply kh; (iterate 2 exact rfl); (first | decide | omega); exact rfl)
        | (apply kl; (iterate 2 exact rfl); (first | decide | omega); exact rfl)
        )
      | ((first | (apply kR; (· exact rfl); (· exact rfl)) | (apply kQ; (· exact rfl))); all_goals (intro hc; try simp only [decide_eq_true_eq, decide_eq_false_iff_not, Bool.not_eq_true', Bool.not_eq_false', Bool.not_eq_true, Bool.not_eq_false, Bool.not_true, Bool.not_false, Int.not_lt, Int.not_le, List.cons.injEq, and_true, beq_iff_eq, beq_eq_false_iff_ne] at hc; try (exfalso; first | contradiction | omega)))
      )
    all_goals (
      (apply ret1; (· exact rfl); intro w' hS)
      exact ⟨rfl, hS.toKeep⟩)
end Go.Proofs.Ytomlgnncncjmaaa
