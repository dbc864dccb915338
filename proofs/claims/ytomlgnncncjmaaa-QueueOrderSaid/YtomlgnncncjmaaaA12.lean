/-
  Places of the program.
-/
import Derived.Test.YtomlgnncncjmaaaA11
-- all by hand
namespace Go.Proofs.Ytomlgnncncjmaaa
open Go.Hb
attribute [local irreducible] LR CW At Ev thn blk finK noG again CallsTo DW QL dnext
set_option linter.unusedSimpArgs false
set_option linter.unusedVariables false
set_option maxRecDepth 100000

set_option maxHeartbeats 2000000 in
theorem c25 (a : Option Addr) (ca : Nat) (l : List Int) (w : World) (hr : Rd w a (bv l)) (hz : a = none → ca = 0) (hm : l.length ≤ 140737488355328) (hb : Byt l) :
    CallsTo Try.prog 25 [.slice a l.length ca] w fun v w' => ∃ a2 c2, v = .tuple [.slice a2 (places l).1.length c2, .int .i64 (places l).2].toArray ∧ NewSl w w' (.slice a2 (places l).1.length c2) 57 4 (places l).1.length (pcs (places l).1) := by
  refine go_in (n := 71) (St.rd1 hr) Try.func25 rfl rfl ?_
  have nils : ∀ w', Grew w w' → NewSl w w' (.slice none 0 0) 57 4 0 (pcs []) := fun w' hg => ⟨hg, World.ownsRow_nil _ _ _ _⟩
  repeat' (
    first
    | (
      first
      | (apply kp; iterate 2 exact rfl)
      | apply ja | apply jb | apply jg | apply jj | (apply je; exact rfl) | (apply jf; exact rfl) | apply jd | apply jh | apply ji | (apply jc; kernel_rfl) | apply jk | apply jl | apply jm | apply jn | apply jo | (apply jp; exact rfl) | apply jq | apply jr | apply js | apply jt | apply ju | apply jv | apply jw | apply kN | apply kM
      | (apply kf; iterate 2 exact rfl)
      | (apply ko; (· exact rfl); (· repeat (first | exact mH _ _ | apply mT)); iterate 2 exact rfl)
      | (apply ka; (· exact rfl); (· repeat (first | exact mH _ _ | apply mT)); iterate 2 exact rfl)
      | (apply kr; (· exact rfl); (· repeat (first | exact mH _ _ | apply mT)); iterate 3 exact rfl)
      | (apply ks; (· exact rfl); (· repeat (first | exact mH _ _ | apply mT)); iterate 2 exact rfl)
      | (apply kn; iterate 2 exact rfl)
      | (apply ke; iterate 2 exact rfl)
      | (apply kx; iterate 2 exact rfl)
      | (apply kc; iterate 2 exact rfl)
      | (apply kb; iterate 2 exact rfl)
      | (apply kg; iterate 2 exact rfl)
      | (apply kG; iterate 3 exact rfl)
      | (apply kB; (iterate 2 exact rfl); intro _)
      | (apply kA; exact rfl; intro _)
      | (apply kL; (iterate 3 exact rfl); (· repeat (first | exact BS.nil _ | (apply BS.int; exact rfl) | (apply BS.ptr; exact rfl) | (apply BS.slice; exact rfl) | (apply BS.agg; iterate 2 exact rfl))); intro _)
      | (apply kT; (iterate 2 exact rfl); (· repeat (first | exact sH _ _ _ | apply sT)); iterate 2 exact rfl)
      | (apply kS; (iterate 2 exact rfl); (· repeat (first | exact sH _ _ _ | apply sT)); exact rfl)
      | (apply kh; (iterate 2 exact rfl); (first | decide | omega); exact rfl)
      | (apply kl; (iterate 2 exact rfl); (first | decide | omega); exact rfl)
      )
    | (apply LR.call; (· exact rfl); (intro w1 h1; first | (refine (c65 a ca l w1 (h1.rd_of (List.Mem.head _)) hz hm).mono ?_; rintro v w2 ⟨br, a1, c1, rfl, hn⟩; refine LR.back (h1.got hn (rrA_dep _ _ _ _ _ _)) ?_; clear hn h1) | (refine (c73 _ _ _ l w1 (h1.holds _ (List.Mem.head _)) hb (by omega)).mono ?_; rintro v w2 ⟨a2, c2, rfl, st⟩; refine LR.back (h1.did (Sel.head _ _ _) rfl st (rrA_dep _ _ _ _ _ _)) ?_; clear st h1)))
    | ((first | (apply kR; (· exact rfl); (· exact rfl)) | (apply kQ; (· exact rfl))); all_goals (intro hc; try simp only [decide_eq_true_eq, decide_eq_false_iff_not, Bool.not_eq_true', Bool.not_eq_false', Bool.not_eq_true, Bool.not_eq_false, Bool.not_true, Bool.not_false, Int.not_lt, Int.not_le, List.cons.injEq, and_true, beq_iff_eq, beq_eq_false_iff_ne] at hc; try (exfalso; first | contradiction | omega)))
    )
  · (apply ret2; (· exact rfl); intro w' hS)
    have e : places l = ([], (dec l).2.2) := by unfold places; rw [if_pos hc]
    rw [e]
    exact ⟨none, 0, rfl, nils w' hS.toKeep⟩
  · rename (dec l).2.2 = 0 => hd
    (apply ret2; (· exact rfl); intro w' hS)
    have e : places l = ([], 5) := by unfold places; rw [if_neg (by simpa using hd), if_pos (by omega)]
    rw [e]
    exact ⟨none, 0, rfl, nils w' hS.toKeep⟩
  rename (dec l).2.2 = 0 => hd
  rename ((dec l).1 : Int) ≤ 4 => h4
  have hdl := dec_le l
  have ep : places l = if (rows (dec l).1 (l.drop (dec l).2.1)).2.1 ≠ 0 then ([], (rows (dec l).1 (l.drop (dec l).2.1)).2.1)
    else if (charts (rows (dec l).1 (l.drop (dec l).2.1)).1).2 ≠ 0 ∨ 0 < (rows (dec l).1 (l.drop (dec l).2.1)).2.2.length then ([], 4)
    else ((rows (dec l).1 (l.drop (dec l).2.1)).1, 0) := by
    unfold places; rw [if_neg (by simpa using hd), if_neg (by omega)]
  have hb0 : Byt (l.drop (dec l).2.1) := hb.drop _
  have hm0 : (l.drop (dec l).2.1).length ≤ 140737488355328 := by simp; omega
  rw [ep]
  clear ep hd
  generalize l.drop (dec l).2.1 = l0 at *
  generalize (dec l).1 = n at *
  have h4' : n ≤ 4 := by omega
  apply LR.makeSlice
  · exact rfl
  · exact rfl
  · omega
  · omega
  · exact rfl
  · exact rfl
  intro bs
  repeat' (
    first
    | (
      first
      | (apply kp; iterate 2 exact rfl)
      | apply ja | apply jb | apply jg | apply jj | (apply je; exact rfl) | (apply jf; exact rfl) | apply jd | apply jh | apply ji | (apply jc; kernel_rfl) | apply jk | apply jl | apply jm | apply jn | apply jo | (apply jp; exact rfl) | apply jq | apply jr | apply js | apply jt | apply ju | apply jv | apply jw | apply kN | apply kM
      | (apply kf; iterate 2 exact rfl)
      | (apply ko; (· exact rfl); (· repeat (first | exact mH _ _ | apply mT)); iterate 2 exact rfl)
      | (apply ka; (· exact rfl); (· repeat (first | exact mH _ _ | apply mT)); iterate 2 exact rfl)
      | (apply kr; (· exact rfl); (· repeat (first | exact mH _ _ | apply mT)); iterate 3 exact rfl)
      | (apply ks; (· exact rfl); (· repeat (first | exact mH _ _ | apply mT)); iterate 2 exact rfl)
      | (apply kn; iterate 2 exact rfl)
      | (apply ke; iterate 2 exact rfl)
      | (apply kx; iterate 2 exact rfl)
      | (apply kc; iterate 2 exact rfl)
      | (apply kb; iterate 2 exact rfl)
      | (apply kg; iterate 2 exact rfl)
      | (apply kG; iterate 3 exact rfl)
      | (apply kB; (iterate 2 exact rfl); intro _)
      | (apply kA; exact rfl; intro _)
      | (apply kL; (iterate 3 exact rfl); (· repeat (first | exact BS.nil _ | (apply BS.int; exact rfl) | (apply BS.ptr; exact rfl) | (apply BS.slice; exact rfl) | (apply BS.agg; iterate 2 exact rfl))); intro _)
      | (apply kT; (iterate 2 exact rfl); (· repeat (first | exact sH _ _ _ | apply sT)); iterate 2 exact rfl)
      | (apply kS; (iterate 2 exact rfl); (· repeat (first | exact sH _ _ _ | apply sT)); exact rfl)
      | (apply kh; (iterate 2 exact rfl); (first | decide | omega); exact rfl)
      | (apply kl; (iterate 2 exact rfl); (first | decide | omega); exact rfl)
      )
    | ((first | (apply kR; (· exact rfl); (· exact rfl)) | (apply kQ; (· exact rfl))); all_goals (intro hc; try simp only [decide_eq_true_eq, decide_eq_false_iff_not, Bool.not_eq_true', Bool.not_eq_false', Bool.not_eq_true, Bool.not_eq_false, Bool.not_true, Bool.not_false, Int.not_lt, Int.not_le, List.cons.injEq, and_true, beq_iff_eq, beq_eq_false_iff_ne] at hc; try (exfalso; first | contradiction | omega)))
    )
  have ezz : (List.replicate n [Value.int .i64 0, .int .i64 0, .int .i64 0, .int .i64 0]).flatten = pcs [] ++ zz (4 * n) := by
    have : ∀ k, (List.replicate k [Value.int .i64 0, .int .i64 0, .int .i64 0, .int .i64 0]).flatten = zz (4 * k) := by
      intro k
      induction k with
      | zero => rfl
      | succ k ih => rw [List.replicate_succ, List.flatten_cons, ih, show 4 * (k + 1) = 4 + 4 * k by omega]; unfold zz; rw [Nat.add_comm]; rfl
    rw [this]; rfl
  rw [ezz]
  apply CW.loop [2, 3, 8, 9, 10, 31, 32, 33, 34, 35, 36, 37, 38, 39, 40, 41, 42, 43, 44, 45, 46, 47, 48, 49, 50, 51, 52, 53, 54, 55, 56, 57] (fun s : Nat × Option Addr × Nat × List Plc × List Int => s.1 ≤ n ∧ s.2.2.2.1.length = s.1 ∧ plcsI s.2.2.2.1 ∧ Byt s.2.2.2.2 ∧ s.2.2.2.2.length ≤ 140737488355328 ∧ rows n l0 = (s.2.2.2.1 ++ (rows (n - s.1) s.2.2.2.2).1, (rows (n - s.1) s.2.2.2.2).2)) (fun s => [(31, Value.int .i64 (s.1 : Int))])
    (fun s => St w NoF [.own bs (.cells (pcs s.2.2.2.1 ++ zz (4 * (n - s.1))).toArray 57 (0, 0)), rrA 120 [.bool true] br s.2.1 s.2.2.1 s.2.2.2.2]) (fun s => n - s.1)
  · exact fun w' hw' => ⟨(0, a2, c2, [], l0), ⟨by simp, rfl, fun p hp => by simp at hp, hb0, hm0, by simp⟩, ⟨rfl, trivial⟩, hw'.sub (by simp)⟩
  rintro ⟨i, a1, c1, ps, l1⟩ g ⟨hi, hps, hpi, hb1, hm1, hrows⟩
  simp only at hi hps hpi hb1 hm1 hrows ⊢
  by_cases hlt : i < n
  · obtain ⟨q, hq⟩ : ∃ q, n - i = q + 1 := ⟨n - i - 1, by omega⟩
    rw [hq] at hrows ⊢
    repeat' (
      first
      | (apply CW.reg_held (fun _ => True); apply DW.quiet [0, 1, 2, 3, 4, 5, 6, 7, 8, 9, 10, 11, 12, 13, 14]; (· kernel_rfl); (· exact fun _ _ => trivial))
      | (
        first
        | (apply kp; iterate 2 exact rfl)
        | apply ja | apply jb | apply jg | apply jj | (apply je; exact rfl) | (apply jf; exact rfl) | apply jd | apply jh | apply ji | (apply jc; kernel_rfl) | apply jk | apply jl | apply jm | apply jn | apply jo | (apply jp; exact rfl) | apply jq | apply jr | apply js | apply jt | apply ju | apply jv | apply jw | apply kN | apply kM
        | (apply kf; iterate 2 exact rfl)
        | (apply ko; (· exact rfl); (· repeat (first | exact mH _ _ | apply mT)); iterate 2 exact rfl)
        | (apply ka; (· exact rfl); (· repeat (first | exact mH _ _ | apply mT)); iterate 2 exact rfl)
        | (apply kr; (· exact rfl); (· repeat (first | exact mH _ _ | apply mT)); iterate 3 exact rfl)
        | (apply ks; (· exact rfl); (· repeat (first | exact mH _ _ | apply mT)); iterate 2 exact rfl)
        | (apply kn; iterate 2 exact rfl)
        | (apply ke; iterate 2 exact rfl)
        | (apply kx; iterate 2 exact rfl)
        | (apply kc; iterate 2 exact rfl)
        | (apply kb; iterate 2 exact rfl)
        | (apply kg; iterate 2 exact rfl)
        | (apply kG; iterate 3 exact rfl)
        | (apply kB; (iterate 2 exact rfl); intro _)
        | (apply kA; exact rfl; intro _)
        | (apply kL; (iterate 3 exact rfl); (· repeat (first | exact BS.nil _ | (apply BS.int; exact rfl) | (apply BS.ptr; exact rfl) | (apply BS.slice; exact rfl) | (apply BS.agg; iterate 2 exact rfl))); intro _)
        | (apply kT; (iterate 2 exact rfl); (· repeat (first | exact sH _ _ _ | apply sT)); iterate 2 exact rfl)
        | (apply kS; (iterate 2 exact rfl); (· repeat (first | exact sH _ _ _ | apply sT)); exact rfl)
        | (apply kh; (iterate 2 exact rfl); (first | decide | omega); exact rfl)
        | (apply kl; (iterate 2 exact rfl); (first | decide | omega); exact rfl)
        )
      | (apply LR.ev; (· apply Ev.indexAddr; (· exact rfl); (· exact rfl); (· first | omega | (dsimp only; omega)); (· first | omega | (dsimp only; omega))); (· exact rfl))
      | ((first | (apply kR; (· exact rfl); (· exact rfl)) | (apply kQ; (· exact rfl))); all_goals (intro hc; try simp only [decide_eq_true_eq, decide_eq_false_iff_not, Bool.not_eq_true', Bool.not_eq_false', Bool.not_eq_true, Bool.not_eq_false, Bool.not_true, Bool.not_false, Int.not_lt, Int.not_le, List.cons.injEq, and_true, beq_iff_eq, beq_eq_false_iff_ne] at hc; try (exfalso; first | contradiction | omega)))
      )
    repeat' (
      first
      | (apply yp; iterate 3 exact rfl)
      | (apply QL.ev; exact rfl
         · first
           | (apply Ev.load_own; (· exact rfl); (· repeat (first | exact mH _ _ | apply mT)); exact rfl)
           | (apply Ev.load_agg; (· exact rfl); (· repeat (first | exact mH _ _ | apply mT)); exact rfl)
           | (apply Ev.load_rdq; (· exact rfl); (· repeat (first | exact mH _ _ | apply mT)); iterate 2 exact rfl)
           | (apply Ev.load_ardq; (· exact rfl); (· repeat (first | exact mH _ _ | apply mT)); exact rfl)
           | (apply Ev.fieldAddr; exact rfl)
           | (apply Ev.len; exact rfl)
           | (apply EqOf.eq; exact rfl)
           | (apply EqOf.ne; exact rfl)
           | (apply Ev.conv; exact rfl)
           | (apply Ev.buildN; exact rfl)
           | (apply Ev.shr; (iterate 2 exact rfl); first | decide | omega)
           | (apply Ev.shl; (iterate 2 exact rfl); first | decide | omega)
         · exact rfl)
      | (apply yq; iterate 5 exact rfl)
      | (apply QL.evg; iterate 3 exact rfl
         · first
           | (apply Ev.load_own; (· exact rfl); (· repeat (first | exact mH _ _ | apply mT)); exact rfl)
           | (apply Ev.load_agg; (· exact rfl); (· repeat (first | exact mH _ _ | apply mT)); exact rfl)
           | (apply Ev.load_rdq; (· exact rfl); (· repeat (first | exact mH _ _ | apply mT)); iterate 2 exact rfl)
           | (apply Ev.load_ardq; (· exact rfl); (· repeat (first | exact mH _ _ | apply mT)); exact rfl)
           | (apply Ev.fieldAddr; exact rfl)
           | (apply Ev.len; exact rfl)
           | (apply EqOf.eq; exact rfl)
           | (apply EqOf.ne; exact rfl)
           | (apply Ev.conv; exact rfl)
           | (apply Ev.buildN; exact rfl)
           | (apply Ev.shr; (iterate 2 exact rfl); first | decide | omega)
           | (apply Ev.shl; (iterate 2 exact rfl); first | decide | omega)
         · exact rfl)
      | (apply yn; iterate 4 exact rfl)
      | apply QL.nil
      )
    apply DW.loud 15
    · exact rfl
    · kernel_rfl
    repeat' (
      first
      | (
        first
        | (apply kp; iterate 2 exact rfl)
        | apply ja | apply jb | apply jg | apply jj | (apply je; exact rfl) | (apply jf; exact rfl) | apply jd | apply jh | apply ji | (apply jc; kernel_rfl) | apply jk | apply jl | apply jm | apply jn | apply jo | (apply jp; exact rfl) | apply jq | apply jr | apply js | apply jt | apply ju | apply jv | apply jw | apply kN | apply kM
        | (apply kf; iterate 2 exact rfl)
        | (apply ko; (· exact rfl); (· repeat (first | exact mH _ _ | apply mT)); iterate 2 exact rfl)
        | (apply ka; (· exact rfl); (· repeat (first | exact mH _ _ | apply mT)); iterate 2 exact rfl)
        | (apply kr; (· exact rfl); (· repeat (first | exact mH _ _ | apply mT)); iterate 3 exact rfl)
        | (apply ks; (· exact rfl); (· repeat (first | exact mH _ _ | apply mT)); iterate 2 exact rfl)
        | (apply kn; iterate 2 exact rfl)
        | (apply ke; iterate 2 exact rfl)
        | (apply kx; iterate 2 exact rfl)
        | (apply kc; iterate 2 exact rfl)
        | (apply kb; iterate 2 exact rfl)
        | (apply kg; iterate 2 exact rfl)
        | (apply kG; iterate 3 exact rfl)
        | (apply kB; (iterate 2 exact rfl); intro _)
        | (apply kA; exact rfl; intro _)
        | (apply kL; (iterate 3 exact rfl); (· repeat (first | exact BS.nil _ | (apply BS.int; exact rfl) | (apply BS.ptr; exact rfl) | (apply BS.slice; exact rfl) | (apply BS.agg; iterate 2 exact rfl))); intro _)
        | (apply kT; (iterate 2 exact rfl); (· repeat (first | exact sH _ _ _ | apply sT)); iterate 2 exact rfl)
        | (apply kS; (iterate 2 exact rfl); (· repeat (first | exact sH _ _ _ | apply sT)); exact rfl)
        | (apply kh; (iterate 2 exact rfl); (first | decide | omega); exact rfl)
        | (apply kl; (iterate 2 exact rfl); (first | decide | omega); exact rfl)
        )
      | ((first | (apply kR; (· exact rfl); (· exact rfl)) | (apply kQ; (· exact rfl))); all_goals (intro hc; try simp only [decide_eq_true_eq, decide_eq_false_iff_not, Bool.not_eq_true', Bool.not_eq_false', Bool.not_eq_true, Bool.not_eq_false, Bool.not_true, Bool.not_false, Int.not_lt, Int.not_le, List.cons.injEq, and_true, beq_iff_eq, beq_eq_false_iff_ne] at hc; try (exfalso; first | contradiction | omega)))
      )
    apply At.stage_any
    apply DW.loud 16
    · exact rfl
    · kernel_rfl
    apply LR.call
    · exact rfl
    intro w1 h1
    have h2 := ((h1.rot.swap).cast (L' := [rrA 120 [.bool true] br a1 c1 l1, .own bs (.cells (pcs ps ++ iv [] ++ zz (4 * (q + 1) - ([] : List Int).length)).toArray 57 (0, 0)), _]) (by simp [iv]; rfl)).join rfl rfl
    refine (c66m (m := 4) (ads := [⟨bs, i * 4, none⟩, ⟨bs, i * 4 + 1, none⟩, ⟨bs, i * 4 + 1 + 1, none⟩, ⟨bs, i * 4 + 3, none⟩]) (T := fun vs => .own bs (.cells (pcs ps ++ iv vs ++ zz (4 * (q + 1) - vs.length)).toArray 57 (0, 0))) h2 rfl ?_ (fun _ => rfl) (fun _ => Asrt.dep_own _ _) hb1 (by omega) (by omega)).mono ?_
    · intro vs x hi'
      have e : ∀ k (hk : k < 4), ([⟨bs, i * 4, none⟩, ⟨bs, i * 4 + 1, none⟩, ⟨bs, i * 4 + 1 + 1, none⟩, ⟨bs, i * 4 + 3, none⟩] : List Addr)[k] = ⟨bs, i * 4 + k, none⟩ := by
        intro k hk
        match k, hk with
        | 0, _ => rfl
        | 1, _ => rfl
        | 2, _ => rfl
        | 3, _ => rfl
      have hi4 : vs.length < 4 := hi'
      rw [e _ hi4]
      have e2 : zz (4 * (q + 1) - vs.length) = .int .i64 0 :: zz (4 * (q + 1) - (vs ++ [x]).length) := by
        rw [show 4 * (q + 1) - vs.length = (4 * (q + 1) - (vs ++ [x]).length) + 1 by simp; omega]; rfl
      have st := Stores.own (P := Try.prog) (T := 3) (m := 1) (b := bs) (o := i * 4 + vs.length) (v := .int .i64 x) (cs := pcs ps ++ iv vs ++ zz (4 * (q + 1) - vs.length)) (vs := [.int .i64 x]) (E := 57) inferInstance rfl rfl rfl (by
        simp [pcs_length, hps, zz]; omega)
      rw [e2, splice_mid _ _ _ _ (by simp [pcs_length, hps])] at st
      rw [e2]
      simpa [iv] using st
    rintro v w2 ⟨a2, c2, rfl, st⟩
    refine LR.back st ?_
    clear st h1 h2
    repeat' (
      first
      | (
        first
        | (apply kp; iterate 2 exact rfl)
        | apply ja | apply jb | apply jg | apply jj | (apply je; exact rfl) | (apply jf; exact rfl) | apply jd | apply jh | apply ji | (apply jc; kernel_rfl) | apply jk | apply jl | apply jm | apply jn | apply jo | (apply jp; exact rfl) | apply jq | apply jr | apply js | apply jt | apply ju | apply jv | apply jw | apply kN | apply kM
        | (apply kf; iterate 2 exact rfl)
        | (apply ko; (· exact rfl); (· repeat (first | exact mH _ _ | apply mT)); iterate 2 exact rfl)
        | (apply ka; (· exact rfl); (· repeat (first | exact mH _ _ | apply mT)); iterate 2 exact rfl)
        | (apply kr; (· exact rfl); (· repeat (first | exact mH _ _ | apply mT)); iterate 3 exact rfl)
        | (apply ks; (· exact rfl); (· repeat (first | exact mH _ _ | apply mT)); iterate 2 exact rfl)
        | (apply kn; iterate 2 exact rfl)
        | (apply ke; iterate 2 exact rfl)
        | (apply kx; iterate 2 exact rfl)
        | (apply kc; iterate 2 exact rfl)
        | (apply kb; iterate 2 exact rfl)
        | (apply kg; iterate 2 exact rfl)
        | (apply kG; iterate 3 exact rfl)
        | (apply kB; (iterate 2 exact rfl); intro _)
        | (apply kA; exact rfl; intro _)
        | (apply kL; (iterate 3 exact rfl); (· repeat (first | exact BS.nil _ | (apply BS.int; exact rfl) | (apply BS.ptr; exact rfl) | (apply BS.slice; exact rfl) | (apply BS.agg; iterate 2 exact rfl))); intro _)
        | (apply kT; (iterate 2 exact rfl); (· repeat (first | exact sH _ _ _ | apply sT)); iterate 2 exact rfl)
        | (apply kS; (iterate 2 exact rfl); (· repeat (first | exact sH _ _ _ | apply sT)); exact rfl)
        | (apply kh; (iterate 2 exact rfl); (first | decide | omega); exact rfl)
        | (apply kl; (iterate 2 exact rfl); (first | decide | omega); exact rfl)
        )
      | ((first | (apply kR; (· exact rfl); (· exact rfl)) | (apply kQ; (· exact rfl))); all_goals (intro hc; try simp only [decide_eq_true_eq, decide_eq_false_iff_not, Bool.not_eq_true', Bool.not_eq_false', Bool.not_eq_true, Bool.not_eq_false, Bool.not_true, Bool.not_false, Int.not_lt, Int.not_le, List.cons.injEq, and_true, beq_iff_eq, beq_eq_false_iff_ne] at hc; try (exfalso; first | contradiction | omega)))
      )
    apply At.stage_any
    apply DW.loud 17
    · exact rfl
    · kernel_rfl
    repeat' (
      first
      | (
        first
        | (apply kp; iterate 2 exact rfl)
        | apply ja | apply jb | apply jg | apply jj | (apply je; exact rfl) | (apply jf; exact rfl) | apply jd | apply jh | apply ji | (apply jc; kernel_rfl) | apply jk | apply jl | apply jm | apply jn | apply jo | (apply jp; exact rfl) | apply jq | apply jr | apply js | apply jt | apply ju | apply jv | apply jw | apply kN | apply kM
        | (apply kf; iterate 2 exact rfl)
        | (apply ko; (· exact rfl); (· repeat (first | exact mH _ _ | apply mT)); iterate 2 exact rfl)
        | (apply ka; (· exact rfl); (· repeat (first | exact mH _ _ | apply mT)); iterate 2 exact rfl)
        | (apply kr; (· exact rfl); (· repeat (first | exact mH _ _ | apply mT)); iterate 3 exact rfl)
        | (apply ks; (· exact rfl); (· repeat (first | exact mH _ _ | apply mT)); iterate 2 exact rfl)
        | (apply kn; iterate 2 exact rfl)
        | (apply ke; iterate 2 exact rfl)
        | (apply kx; iterate 2 exact rfl)
        | (apply kc; iterate 2 exact rfl)
        | (apply kb; iterate 2 exact rfl)
        | (apply kg; iterate 2 exact rfl)
        | (apply kG; iterate 3 exact rfl)
        | (apply kB; (iterate 2 exact rfl); intro _)
        | (apply kA; exact rfl; intro _)
        | (apply kL; (iterate 3 exact rfl); (· repeat (first | exact BS.nil _ | (apply BS.int; exact rfl) | (apply BS.ptr; exact rfl) | (apply BS.slice; exact rfl) | (apply BS.agg; iterate 2 exact rfl))); intro _)
        | (apply kT; (iterate 2 exact rfl); (· repeat (first | exact sH _ _ _ | apply sT)); iterate 2 exact rfl)
        | (apply kS; (iterate 2 exact rfl); (· repeat (first | exact sH _ _ _ | apply sT)); exact rfl)
        | (apply kh; (iterate 2 exact rfl); (first | decide | omega); exact rfl)
        | (apply kl; (iterate 2 exact rfl); (first | decide | omega); exact rfl)
        )
      | ((first | (apply kR; (· exact rfl); (· exact rfl)) | (apply kQ; (· exact rfl))); all_goals (intro hc; try simp only [decide_eq_true_eq, decide_eq_false_iff_not, Bool.not_eq_true', Bool.not_eq_false', Bool.not_eq_true, Bool.not_eq_false, Bool.not_true, Bool.not_false, Int.not_lt, Int.not_le, List.cons.injEq, and_true, beq_iff_eq, beq_eq_false_iff_ne] at hc; try (exfalso; first | contradiction | omega)))
      )
    apply At.stage_any
    apply DW.done_thn
    · kernel_rfl
    repeat' (
      first
      | (
        first
        | (apply kp; iterate 2 exact rfl)
        | apply ja | apply jb | apply jg | apply jj | (apply je; exact rfl) | (apply jf; exact rfl) | apply jd | apply jh | apply ji | (apply jc; kernel_rfl) | apply jk | apply jl | apply jm | apply jn | apply jo | (apply jp; exact rfl) | apply jq | apply jr | apply js | apply jt | apply ju | apply jv | apply jw | apply kN | apply kM
        | (apply kf; iterate 2 exact rfl)
        | (apply ko; (· exact rfl); (· repeat (first | exact mH _ _ | apply mT)); iterate 2 exact rfl)
        | (apply ka; (· exact rfl); (· repeat (first | exact mH _ _ | apply mT)); iterate 2 exact rfl)
        | (apply kr; (· exact rfl); (· repeat (first | exact mH _ _ | apply mT)); iterate 3 exact rfl)
        | (apply ks; (· exact rfl); (· repeat (first | exact mH _ _ | apply mT)); iterate 2 exact rfl)
        | (apply kn; iterate 2 exact rfl)
        | (apply ke; iterate 2 exact rfl)
        | (apply kx; iterate 2 exact rfl)
        | (apply kc; iterate 2 exact rfl)
        | (apply kb; iterate 2 exact rfl)
        | (apply kg; iterate 2 exact rfl)
        | (apply kG; iterate 3 exact rfl)
        | (apply kB; (iterate 2 exact rfl); intro _)
        | (apply kA; exact rfl; intro _)
        | (apply kL; (iterate 3 exact rfl); (· repeat (first | exact BS.nil _ | (apply BS.int; exact rfl) | (apply BS.ptr; exact rfl) | (apply BS.slice; exact rfl) | (apply BS.agg; iterate 2 exact rfl))); intro _)
        | (apply kT; (iterate 2 exact rfl); (· repeat (first | exact sH _ _ _ | apply sT)); iterate 2 exact rfl)
        | (apply kS; (iterate 2 exact rfl); (· repeat (first | exact sH _ _ _ | apply sT)); exact rfl)
        | (apply kh; (iterate 2 exact rfl); (first | decide | omega); exact rfl)
        | (apply kl; (iterate 2 exact rfl); (first | decide | omega); exact rfl)
        )
      | (apply LR.ev; (· apply Ev.add; (· exact rfl); (· exact rfl); (· first | omega | (dsimp only; omega)); (· first | omega | (dsimp only; omega))); (· exact rfl))
      | ((first | (apply kR; (· exact rfl); (· exact rfl)) | (apply kQ; (· exact rfl))); all_goals (intro hc; try simp only [decide_eq_true_eq, decide_eq_false_iff_not, Bool.not_eq_true', Bool.not_eq_false', Bool.not_eq_true, Bool.not_eq_false, Bool.not_true, Bool.not_false, Int.not_lt, Int.not_le, List.cons.injEq, and_true, beq_iff_eq, beq_eq_false_iff_ne] at hc; try (exfalso; first | contradiction | omega)))
      )
    · (apply ret2; (· exact rfl); intro w' hS)
      have e : rows (q + 1) l1 = ([], (decs 4 l1).2.1, (decs 4 l1).2.2) := by rw [rows, if_pos hc]
      rw [hrows, e]
      simp only [List.append_nil]
      rw [if_pos hc]
      exact ⟨none, 0, rfl, nils w' hS.toKeep⟩
    · have hl4 := (decs_len 4 l1).2 hc
      have hl5 := decs_rest_len 4 l1
      apply At.again (i + 1, a2, c2, ps ++ [plcOf (decs 4 l1).1], (decs 4 l1).2.2)
      · refine ⟨by show i + 1 ≤ _; omega, by simp [hps], ?_, decs_rest_byt 4 hb1, by dsimp only; omega, ?_⟩
        · intro p hp
          simp only [List.mem_append, List.mem_singleton] at hp
          rcases hp with hp | rfl
          · exact hpi p hp
          · exact plcOf_i64 (decs_bound 4 l1)
        · show rows n l0 = _
          have e : rows (q + 1) l1 = (plcOf (decs 4 l1).1 :: (rows q (decs 4 l1).2.2).1, (rows q (decs 4 l1).2.2).2) := by rw [rows, if_neg (by simpa using hc)]
          rw [hrows, e, show n - (i + 1) = q by omega]
          simp
      · (repeat (first | exact Out.refl _ _ | exact Out.mix | (apply Out.upd; (· exact rfl)) | (apply Out.updL; (· exact rfl)) | (apply Out.mixs; (· exact rfl))))
      · exact ⟨rfl, trivial⟩
      · intro w' hw'
        refine (St.sub (L' := [_, _]) hw'.swap (List.Sublist.cons_cons _ (List.Sublist.cons_cons _ (List.nil_sublist _)))).cast ?_
        have e1 : pcs ps ++ iv (decs 4 l1).1 ++ zz (4 * (q + 1) - (decs 4 l1).1.length) = pcs (ps ++ [plcOf (decs 4 l1).1]) ++ zz (4 * (n - (i + 1))) := by
          rw [hl4, show 4 * (n - (i + 1)) = 4 * (q + 1) - 4 by omega]
          simp only [pcs, List.flatMap_append, List.flatMap_cons, List.flatMap_nil, List.append_nil, plcOf_cells hl4]
        rw [e1]
      · show n - (i + 1) < n - i; omega
  · have hq : n - i = 0 := by omega
    rw [hq] at hrows ⊢
    have hin : i = n := by omega
    have er : rows n l0 = (ps, 0, l1) := by rw [hrows]; simp [rows]
    rw [er]
    simp only
    subst hin
    rw [show zz (4 * 0) = [] from rfl, List.append_nil, ← hps]
    rw [if_neg (by simp)]
    repeat' (
      first
      | (
        first
        | (apply kp; iterate 2 exact rfl)
        | apply ja | apply jb | apply jg | apply jj | (apply je; exact rfl) | (apply jf; exact rfl) | apply jd | apply jh | apply ji | (apply jc; kernel_rfl) | apply jk | apply jl | apply jm | apply jn | apply jo | (apply jp; exact rfl) | apply jq | apply jr | apply js | apply jt | apply ju | apply jv | apply jw | apply kN | apply kM
        | (apply kf; iterate 2 exact rfl)
        | (apply ko; (· exact rfl); (· repeat (first | exact mH _ _ | apply mT)); iterate 2 exact rfl)
        | (apply ka; (· exact rfl); (· repeat (first | exact mH _ _ | apply mT)); iterate 2 exact rfl)
        | (apply kr; (· exact rfl); (· repeat (first | exact mH _ _ | apply mT)); iterate 3 exact rfl)
        | (apply ks; (· exact rfl); (· repeat (first | exact mH _ _ | apply mT)); iterate 2 exact rfl)
        | (apply kn; iterate 2 exact rfl)
        | (apply ke; iterate 2 exact rfl)
        | (apply kx; iterate 2 exact rfl)
        | (apply kc; iterate 2 exact rfl)
        | (apply kb; iterate 2 exact rfl)
        | (apply kg; iterate 2 exact rfl)
        | (apply kG; iterate 3 exact rfl)
        | (apply kB; (iterate 2 exact rfl); intro _)
        | (apply kA; exact rfl; intro _)
        | (apply kL; (iterate 3 exact rfl); (· repeat (first | exact BS.nil _ | (apply BS.int; exact rfl) | (apply BS.ptr; exact rfl) | (apply BS.slice; exact rfl) | (apply BS.agg; iterate 2 exact rfl))); intro _)
        | (apply kT; (iterate 2 exact rfl); (· repeat (first | exact sH _ _ _ | apply sT)); iterate 2 exact rfl)
        | (apply kS; (iterate 2 exact rfl); (· repeat (first | exact sH _ _ _ | apply sT)); exact rfl)
        | (apply kh; (iterate 2 exact rfl); (first | decide | omega); exact rfl)
        | (apply kl; (iterate 2 exact rfl); (first | decide | omega); exact rfl)
        )
      | (apply LR.call; (· exact rfl); (intro w1 h1; refine (c28 _ _ ps w1 (h1.rd_of_blk (cs := pcs ps) (List.Mem.head _)) (by omega) hpi).mono ?_; rintro v w2 ⟨a2, c2, rfl, hn⟩; refine LR.back (h1.newSl hn) ?_; clear hn h1))
      | (apply LR.qcall; (· exact rfl); (· intro w1 h1; exact CallsTo.q (c68 br a1 c1 l1 w1 (h1.holds _ (List.Mem.tail _ (List.Mem.tail _ (List.Mem.head _))))) h1))
      | ((first | (apply kR; (· exact rfl); (· exact rfl)) | (apply kQ; (· exact rfl))); all_goals (intro hc; try simp only [decide_eq_true_eq, decide_eq_false_iff_not, Bool.not_eq_true', Bool.not_eq_false', Bool.not_eq_true, Bool.not_eq_false, Bool.not_true, Bool.not_false, Int.not_lt, Int.not_le, List.cons.injEq, and_true, beq_iff_eq, beq_eq_false_iff_ne] at hc; try (exfalso; first | contradiction | omega)))
      )
    · (apply ret2; (· exact rfl); intro w' hS)
      rw [if_pos (.inl hc)]
      exact ⟨none, 0, rfl, nils w' hS.toKeep⟩
    · rename (charts ps).2 = 0 => h0
      (apply ret2; (· exact rfl); intro w' hS)
      rw [if_pos (.inr (by omega))]
      exact ⟨none, 0, rfl, nils w' hS.toKeep⟩
    · rename (charts ps).2 = 0 => h0
      (apply ret2; (· exact rfl); intro w' hS)
      rw [if_neg (by simp only [not_or, Nat.not_lt]; exact ⟨by simpa using h0, by omega⟩)]
      exact ⟨some ⟨bs, 0, none⟩, ps.length, rfl, (hS.own_osl (Sel.tail _ (Sel.head _ _ _)) (pcs_length ps) (by unfold maxLen; omega)).toNew (List.Mem.tail _ (List.Mem.head _))⟩
end Go.Proofs.Ytomlgnncncjmaaa
