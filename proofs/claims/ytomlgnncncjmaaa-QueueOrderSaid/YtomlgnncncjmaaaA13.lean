/-
  Places of the reference.
-/
import Derived.Test.YtomlgnncncjmaaaA12
-- all by hand
namespace Go.Proofs.Ytomlgnncncjmaaa
open Go.Hb
attribute [local irreducible] LR CW At Ev thn blk finK noG again CallsTo DW QL dnext
set_option linter.unusedSimpArgs false
set_option linter.unusedVariables false
set_option maxRecDepth 100000

theorem nilSl {w0 w : World} {F : Nat → Prop} {L : List Asrt} (E sz : Nat) (h : St w0 F L w) : St w0 F (osl (.slice none 0 0) E sz 0 [] :: L) w :=
  h.push (Grew.refl w) (World.ownsRow_nil w 0 E sz) (fun k hk => by simp [osl, Asrt.foot, Value.ownBlock] at hk) (osl.dep _ _ _ _ _)
def psl (a : Option Addr) (c : Nat) (ps : List Plc) : Asrt := osl (.slice a ps.length c) 57 4 ps.length (pcs ps)

set_option maxHeartbeats 2000000 in
theorem c26 (a : Option Addr) (ca : Nat) (l : List Int) (w : World) (hr : Rd w a (bv l)) (hz : a = none → ca = 0) (hm : l.length ≤ 140737488355328) (hb : Byt l) :
    CallsTo Try.prog 26 [.slice a l.length ca] w fun v w' => ∃ a2 c2, v = .tuple [.slice a2 (places l).1.length c2, .int .i64 (places l).2].toArray ∧ NewSl w w' (.slice a2 (places l).1.length c2) 57 4 (places l).1.length (pcs (places l).1) := by
  refine go_in (n := 73) (St.rd1 hr) Try.func26 rfl rfl ?_
  have nils : ∀ w', Grew w w' → NewSl w w' (.slice none 0 0) 57 4 0 (pcs []) := fun w' hg => ⟨hg, World.ownsRow_nil _ _ _ _⟩
  repeat' (
    first
    | (
      first
      | (apply kp; iterate 2 exact rfl)
      | apply ja | apply jb | apply jg | apply jj | (apply je; exact rfl) | (apply jf; exact rfl) | apply jd | apply jh | apply ji | (apply jc; kernel_rfl) | apply jk | apply jl | apply jm | apply jn | apply jo | (apply jp; exact rfl) | apply jq | apply jr | apply js | apply jt | apply ju | apply jv | apply jw | apply kN | apply kM
      | (apply kf; iterate 2 exact rfl)
      | (apply ko; (· exact rfl); (· repeat (first | exact mH _ _ | apply mT)); iterate 2 exact rfl)
      | (apply ka; (· exact rfl); (· repeat (first | exact mH _ _ | apply mT)); iterate 2 exact rfl)
      | (apply kr; (· exact rfl); (· repeat (first | exact mH _ _ | apply mT)); iterate 3 exact rfl)
      | (apply ks; (· exact rfl); (· repeat (first | exact mH _ _ | apply mT)); iterate 2 exact rfl)
      | (apply kn; iterate 2 exact rfl)
      | (apply ke; iterate 2 exact rfl)
      | (apply kx; iterate 2 exact rfl)
      | (apply kc; iterate 2 exact rfl)
      | (apply kb; iterate 2 exact rfl)
      | (apply kg; iterate 2 exact rfl)
      | (apply kG; iterate 3 exact rfl)
      | (apply kB; (iterate 2 exact rfl); intro _)
      | (apply kA; exact rfl; intro _)
      | (apply kL; (iterate 3 exact rfl); (· repeat (first | exact BS.nil _ | (apply BS.int; exact rfl) | (apply BS.ptr; exact rfl) | (apply BS.slice; exact rfl) | (apply BS.agg; iterate 2 exact rfl))); intro _)
      | (apply kT; (iterate 2 exact rfl); (· repeat (first | exact sH _ _ _ | apply sT)); iterate 2 exact rfl)
      | (apply kS; (iterate 2 exact rfl); (· repeat (first | exact sH _ _ _ | apply sT)); exact rfl)
      | (apply kh; (iterate 2 exact rfl); (first | decide | omega); exact rfl)
      | (apply kl; (iterate 2 exact rfl); (first | decide | omega); exact rfl)
      )
    | (apply LR.call; (· exact rfl); (intro w1 h1; first | (refine (c69 a ca l w1 (h1.rd_of (List.Mem.head _)) hz hm).mono ?_; rintro v w2 ⟨br, a1, c1, rfl, hn⟩; refine LR.back (h1.got hn (rrA_dep _ _ _ _ _ _)) ?_; clear hn h1) | (refine (c70 _ _ _ l w1 (h1.holds _ (List.Mem.head _)) hb (by omega)).mono ?_; rintro v w2 ⟨a2, c2, rfl, st⟩; refine LR.back (h1.did (Sel.head _ _ _) rfl st (rrA_dep _ _ _ _ _ _)) ?_; clear st h1)))
    | ((first | (apply kR; (· exact rfl); (· exact rfl)) | (apply kQ; (· exact rfl))); all_goals (intro hc; try simp only [decide_eq_true_eq, decide_eq_false_iff_not, Bool.not_eq_true', Bool.not_eq_false', Bool.not_eq_true, Bool.not_eq_false, Bool.not_true, Bool.not_false, Int.not_lt, Int.not_le, List.cons.injEq, and_true, beq_iff_eq, beq_eq_false_iff_ne] at hc; try (exfalso; first | contradiction | omega)))
    )
  · (apply ret2; (· exact rfl); intro w' hS)
    have e : places l = ([], (dec l).2.2) := by unfold places; rw [if_pos hc]
    rw [e]
    exact ⟨none, 0, rfl, nils w' hS.toKeep⟩
  · rename (dec l).2.2 = 0 => hd
    (apply ret2; (· exact rfl); intro w' hS)
    have e : places l = ([], 5) := by unfold places; rw [if_neg (by simpa using hd), if_pos (by omega)]
    rw [e]
    exact ⟨none, 0, rfl, nils w' hS.toKeep⟩
  rename (dec l).2.2 = 0 => hd
  rename ((dec l).1 : Int) ≤ 4 => h4
  have hdl := dec_le l
  have ep : places l = if (rows (dec l).1 (l.drop (dec l).2.1)).2.1 ≠ 0 then ([], (rows (dec l).1 (l.drop (dec l).2.1)).2.1)
    else if (charts (rows (dec l).1 (l.drop (dec l).2.1)).1).2 ≠ 0 ∨ 0 < (rows (dec l).1 (l.drop (dec l).2.1)).2.2.length then ([], 4)
    else ((rows (dec l).1 (l.drop (dec l).2.1)).1, 0) := by
    unfold places; rw [if_neg (by simpa using hd), if_neg (by omega)]
  have hb0 : Byt (l.drop (dec l).2.1) := hb.drop _
  have hm0 : (l.drop (dec l).2.1).length ≤ 140737488355328 := by simp; omega
  rw [ep]
  clear ep hd
  generalize l.drop (dec l).2.1 = l0 at *
  generalize (dec l).1 = n at *
  have h4' : n ≤ 4 := by omega
  apply CW.loop [2, 3, 7, 8, 9, 10, 11, 12, 27, 28, 29, 30, 31, 32, 33, 34, 35, 36, 37, 38, 39, 40, 41, 42, 43, 44, 45, 46, 47, 48, 49, 50, 51, 52, 53, 54, 55, 56, 57, 58, 59] (fun s : Nat × (Option Addr × Nat) × (Option Addr × Nat) × List Plc × List Int => s.1 ≤ n ∧ s.2.2.2.1.length = s.1 ∧ plcsI s.2.2.2.1 ∧ Byt s.2.2.2.2 ∧ s.2.2.2.2.length ≤ 140737488355328 ∧ rows n l0 = (s.2.2.2.1 ++ (rows (n - s.1) s.2.2.2.2).1, (rows (n - s.1) s.2.2.2.2).2)) (fun s => [(8, Value.int .i64 (s.1 : Int)), (7, .slice s.2.2.1.1 s.2.2.2.1.length s.2.2.1.2)])
    (fun s => St w NoF [psl s.2.2.1.1 s.2.2.1.2 s.2.2.2.1, rrA 125 [] br s.2.1.1 s.2.1.2 s.2.2.2.2]) (fun s => n - s.1)
  · exact fun w' hw' => ⟨(0, (a2, c2), (none, 0), [], l0), ⟨by simp, rfl, fun p hp => by simp at hp, hb0, hm0, by simp⟩, ⟨rfl, rfl, trivial⟩, (nilSl 57 4 hw').sub (List.Sublist.cons_cons _ (List.Sublist.cons_cons _ (List.nil_sublist _)))⟩
  rintro ⟨i, ⟨a1, c1⟩, ⟨ao, co⟩, ps, l1⟩ g ⟨hi, hps, hpi, hb1, hm1, hrows⟩
  simp only at hi hps hpi hb1 hm1 hrows ⊢
  by_cases hlt : i < n
  · obtain ⟨q, hq⟩ : ∃ q, n - i = q + 1 := ⟨n - i - 1, by omega⟩
    rw [hq] at hrows
    repeat' (
      first
      | (
        first
        | (apply kp; iterate 2 exact rfl)
        | apply ja | apply jb | apply jg | apply jj | (apply je; exact rfl) | (apply jf; exact rfl) | apply jd | apply jh | apply ji | (apply jc; kernel_rfl) | apply jk | apply jl | apply jm | apply jn | apply jo | (apply jp; exact rfl) | apply jq | apply jr | apply js | apply jt | apply ju | apply jv | apply jw | apply kN | apply kM
        | (apply kf; iterate 2 exact rfl)
        | (apply ko; (· exact rfl); (· repeat (first | exact mH _ _ | apply mT)); iterate 2 exact rfl)
        | (apply ka; (· exact rfl); (· repeat (first | exact mH _ _ | apply mT)); iterate 2 exact rfl)
        | (apply kr; (· exact rfl); (· repeat (first | exact mH _ _ | apply mT)); iterate 3 exact rfl)
        | (apply ks; (· exact rfl); (· repeat (first | exact mH _ _ | apply mT)); iterate 2 exact rfl)
        | (apply kn; iterate 2 exact rfl)
        | (apply ke; iterate 2 exact rfl)
        | (apply kx; iterate 2 exact rfl)
        | (apply kc; iterate 2 exact rfl)
        | (apply kb; iterate 2 exact rfl)
        | (apply kg; iterate 2 exact rfl)
        | (apply kG; iterate 3 exact rfl)
        | (apply kB; (iterate 2 exact rfl); intro _)
        | (apply kA; exact rfl; intro _)
        | (apply kL; (iterate 3 exact rfl); (· repeat (first | exact BS.nil _ | (apply BS.int; exact rfl) | (apply BS.ptr; exact rfl) | (apply BS.slice; exact rfl) | (apply BS.agg; iterate 2 exact rfl))); intro _)
        | (apply kT; (iterate 2 exact rfl); (· repeat (first | exact sH _ _ _ | apply sT)); iterate 2 exact rfl)
        | (apply kS; (iterate 2 exact rfl); (· repeat (first | exact sH _ _ _ | apply sT)); exact rfl)
        | (apply kh; (iterate 2 exact rfl); (first | decide | omega); exact rfl)
        | (apply kl; (iterate 2 exact rfl); (first | decide | omega); exact rfl)
        )
      | ((first | (apply kR; (· exact rfl); (· exact rfl)) | (apply kQ; (· exact rfl))); all_goals (intro hc; try simp only [decide_eq_true_eq, decide_eq_false_iff_not, Bool.not_eq_true', Bool.not_eq_false', Bool.not_eq_true, Bool.not_eq_false, Bool.not_true, Bool.not_false, Int.not_lt, Int.not_le, List.cons.injEq, and_true, beq_iff_eq, beq_eq_false_iff_ne] at hc; try (exfalso; first | contradiction | omega)))
      )
    rename_i ba
    apply CW.loop [2, 3, 10, 11, 12, 32, 33, 34, 35, 36, 37, 38, 39, 40, 41, 42, 43, 44, 45, 46] (fun s : Nat × (Option Addr × Nat) × List Int × List Int => s.1 ≤ 4 ∧ s.2.2.1.length = s.1 ∧ Byt s.2.2.2 ∧ s.2.2.2.length ≤ 140737488355328 ∧ decs 4 l1 = (s.2.2.1 ++ (decs (4 - s.1) s.2.2.2).1, (decs (4 - s.1) s.2.2.2).2)) (fun s => [(10, Value.int .i64 (s.1 : Int))])
      (fun s => St w NoF [.own ba (.cells (iv s.2.2.1 ++ zz (4 - s.1)).toArray 107 (0, 0)), psl ao co ps, rrA 125 [] br s.2.1.1 s.2.1.2 s.2.2.2]) (fun s => 4 - s.1)
    · exact fun w' hw' => ⟨(0, (a1, c1), [], l1), ⟨by simp, rfl, hb1, hm1, by simp⟩, ⟨rfl, trivial⟩, hw'⟩
    rintro ⟨k, ⟨a3, c3⟩, vs, l3⟩ g3 ⟨hk, hvs, hb3, hm3, hdec⟩
    simp only at hk hvs hb3 hm3 hdec ⊢
    by_cases hlt3 : k < 4
    · obtain ⟨q3, hq3⟩ : ∃ q, 4 - k = q + 1 := ⟨4 - k - 1, by omega⟩
      rw [hq3] at hdec ⊢
      repeat' (
        first
        | (
          first
          | (apply kp; iterate 2 exact rfl)
          | apply ja | apply jb | apply jg | apply jj | (apply je; exact rfl) | (apply jf; exact rfl) | apply jd | apply jh | apply ji | (apply jc; kernel_rfl) | apply jk | apply jl | apply jm | apply jn | apply jo | (apply jp; exact rfl) | apply jq | apply jr | apply js | apply jt | apply ju | apply jv | apply jw | apply kN | apply kM
          | (apply kf; iterate 2 exact rfl)
          | (apply ko; (· exact rfl); (· repeat (first | exact mH _ _ | apply mT)); iterate 2 exact rfl)
          | (apply ka; (· exact rfl); (· repeat (first | exact mH _ _ | apply mT)); iterate 2 exact rfl)
          | (apply kr; (· exact rfl); (· repeat (first | exact mH _ _ | apply mT)); iterate 3 exact rfl)
          | (apply ks; (· exact rfl); (· repeat (first | exact mH _ _ | apply mT)); iterate 2 exact rfl)
          | (apply kn; iterate 2 exact rfl)
          | (apply ke; iterate 2 exact rfl)
          | (apply kx; iterate 2 exact rfl)
          | (apply kc; iterate 2 exact rfl)
          | (apply kb; iterate 2 exact rfl)
          | (apply kg; iterate 2 exact rfl)
          | (apply kG; iterate 3 exact rfl)
          | (apply kB; (iterate 2 exact rfl); intro _)
          | (apply kA; exact rfl; intro _)
          | (apply kL; (iterate 3 exact rfl); (· repeat (first | exact BS.nil _ | (apply BS.int; exact rfl) | (apply BS.ptr; exact rfl) | (apply BS.slice; exact rfl) | (apply BS.agg; iterate 2 exact rfl))); intro _)
          | (apply kT; (iterate 2 exact rfl); (· repeat (first | exact sH _ _ _ | apply sT)); iterate 2 exact rfl)
          | (apply kS; (iterate 2 exact rfl); (· repeat (first | exact sH _ _ _ | apply sT)); exact rfl)
          | (apply kh; (iterate 2 exact rfl); (first | decide | omega); exact rfl)
          | (apply kl; (iterate 2 exact rfl); (first | decide | omega); exact rfl)
          )
        | (apply LR.ev; (· apply Ev.indexArr; (· exact rfl); (· exact rfl); (· first | decide | omega | (dsimp only; omega)); (· first | decide | omega | (dsimp only; omega))); (· exact rfl))
        | (apply LR.call; (· exact rfl); (intro w1 h1; refine (c70 _ _ _ l3 w1 (h1.holds _ (List.Mem.tail _ (List.Mem.tail _ (List.Mem.head _)))) hb3 (by omega)).mono ?_; rintro v w2 ⟨a4, c4, rfl, st⟩; refine LR.back (h1.did (Sel.tail _ (Sel.tail _ (Sel.head _ _ _))) rfl st (rrA_dep _ _ _ _ _ _)) ?_; clear st h1))
        | ((first | (apply kR; (· exact rfl); (· exact rfl)) | (apply kQ; (· exact rfl))); all_goals (intro hc; try simp only [decide_eq_true_eq, decide_eq_false_iff_not, Bool.not_eq_true', Bool.not_eq_false', Bool.not_eq_true, Bool.not_eq_false, Bool.not_true, Bool.not_false, Int.not_lt, Int.not_le, List.cons.injEq, and_true, beq_iff_eq, beq_eq_false_iff_ne] at hc; try (exfalso; first | contradiction | omega)))
        )
      · (apply ret2; (· exact rfl); intro w' hS)
        have e : decs 4 l1 = (vs, (dec l3).2.2, l3.drop (dec l3).2.1) := by rw [hdec]; simp only [decs, if_pos hc, List.append_nil]
        have e2 : rows (q + 1) l1 = ([], (decs 4 l1).2.1, (decs 4 l1).2.2) := by rw [rows, if_pos (by rw [e]; exact hc)]
        rw [hrows, e2, e]
        simp only [List.append_nil]
        rw [if_pos hc]
        exact ⟨none, 0, rfl, nils w' hS.toKeep⟩
      · refine LR.store_obj (v := .int .i64 ((dec l3).1 : Int)) (z' := .own ba (.cells (iv (vs ++ [((dec l3).1 : Int)]) ++ zz q3).toArray 107 (0, 0))) rfl rfl (Sel.head _ _ _) rfl ?_ (Asrt.dep_own _ _) ?_
        · have st := Stores.own (P := Try.prog) (T := 3) (m := 1) (b := ba) (o := 0 + (k : Int).toNat * 1) (v := .int .i64 ((dec l3).1 : Int)) (cs := iv vs ++ zz (q3 + 1)) (vs := [.int .i64 ((dec l3).1 : Int)]) (E := 107) inferInstance rfl rfl rfl (by
            simp [hvs, zz])
          have e2 : zz (q3 + 1) = .int .i64 0 :: zz q3 := rfl
          rw [e2, splice_mid _ _ _ _ (by simp [hvs])] at st
          rw [e2]
          simpa [iv] using st
        repeat' (
          first
          | (
            first
            | (apply kp; iterate 2 exact rfl)
            | apply ja | apply jb | apply jg | apply jj | (apply je; exact rfl) | (apply jf; exact rfl) | apply jd | apply jh | apply ji | (apply jc; kernel_rfl) | apply jk | apply jl | apply jm | apply jn | apply jo | (apply jp; exact rfl) | apply jq | apply jr | apply js | apply jt | apply ju | apply jv | apply jw | apply kN | apply kM
            | (apply kf; iterate 2 exact rfl)
            | (apply ko; (· exact rfl); (· repeat (first | exact mH _ _ | apply mT)); iterate 2 exact rfl)
            | (apply ka; (· exact rfl); (· repeat (first | exact mH _ _ | apply mT)); iterate 2 exact rfl)
            | (apply kr; (· exact rfl); (· repeat (first | exact mH _ _ | apply mT)); iterate 3 exact rfl)
            | (apply ks; (· exact rfl); (· repeat (first | exact mH _ _ | apply mT)); iterate 2 exact rfl)
            | (apply kn; iterate 2 exact rfl)
            | (apply ke; iterate 2 exact rfl)
            | (apply kx; iterate 2 exact rfl)
            | (apply kc; iterate 2 exact rfl)
            | (apply kb; iterate 2 exact rfl)
            | (apply kg; iterate 2 exact rfl)
            | (apply kG; iterate 3 exact rfl)
            | (apply kB; (iterate 2 exact rfl); intro _)
            | (apply kA; exact rfl; intro _)
            | (apply kL; (iterate 3 exact rfl); (· repeat (first | exact BS.nil _ | (apply BS.int; exact rfl) | (apply BS.ptr; exact rfl) | (apply BS.slice; exact rfl) | (apply BS.agg; iterate 2 exact rfl))); intro _)
            | (apply kT; (iterate 2 exact rfl); (· repeat (first | exact sH _ _ _ | apply sT)); iterate 2 exact rfl)
            | (apply kS; (iterate 2 exact rfl); (· repeat (first | exact sH _ _ _ | apply sT)); exact rfl)
            | (apply kh; (iterate 2 exact rfl); (first | decide | omega); exact rfl)
            | (apply kl; (iterate 2 exact rfl); (first | decide | omega); exact rfl)
            )
          | (apply LR.ev; (· apply Ev.add; (· exact rfl); (· exact rfl); (· first | omega | (dsimp only; omega)); (· first | omega | (dsimp only; omega))); (· exact rfl))
          | ((first | (apply kR; (· exact rfl); (· exact rfl)) | (apply kQ; (· exact rfl))); all_goals (intro hc; try simp only [decide_eq_true_eq, decide_eq_false_iff_not, Bool.not_eq_true', Bool.not_eq_false', Bool.not_eq_true, Bool.not_eq_false, Bool.not_true, Bool.not_false, Int.not_lt, Int.not_le, List.cons.injEq, and_true, beq_iff_eq, beq_eq_false_iff_ne] at hc; try (exfalso; first | contradiction | omega)))
          )
        apply At.again (k + 1, (a4, c4), vs ++ [((dec l3).1 : Int)], l3.drop (dec l3).2.1)
        · refine ⟨by show k + 1 ≤ _; omega, by simp [hvs], hb3.drop _, by simp; omega, ?_⟩
          show decs 4 l1 = _
          have e : decs (q3 + 1) l3 = ((((dec l3).1 : Nat) : Int) :: (decs q3 (l3.drop (dec l3).2.1)).1, (decs q3 (l3.drop (dec l3).2.1)).2) := by rw [decs, if_neg (by simpa using hc)]
          rw [hdec, e, show 4 - (k + 1) = q3 by omega]
          simp
        · (repeat (first | exact Out.refl _ _ | exact Out.mix | (apply Out.upd; (· exact rfl)) | (apply Out.updL; (· exact rfl)) | (apply Out.mixs; (· exact rfl))))
        · exact ⟨rfl, trivial⟩
        · intro w' hw'
          simp only [show 4 - (k + 1) = q3 by omega]
          exact hw'
        · show 4 - (k + 1) < 4 - k; omega
    · have hk4 : k = 4 := by omega
      subst hk4
      have hd4 : decs 4 l1 = (vs, 0, l3) := by rw [hdec]; simp [decs]
      obtain ⟨v0, v1, v2, v3, rfl⟩ := four hvs
      have hvb := decs_bound 4 l1
      rw [hd4] at hvb
      have e2 : rows (q + 1) l1 = (plcOf [v0, v1, v2, v3] :: (rows q l3).1, (rows q l3).2) := by rw [rows, hd4, if_neg (by simp)]
      rw [e2] at hrows
      repeat' (
        first
        | (
          first
          | (apply kp; iterate 2 exact rfl)
          | apply ja | apply jb | apply jg | apply jj | (apply je; exact rfl) | (apply jf; exact rfl) | apply jd | apply jh | apply ji | (apply jc; kernel_rfl) | apply jk | apply jl | apply jm | apply jn | apply jo | (apply jp; exact rfl) | apply jq | apply jr | apply js | apply jt | apply ju | apply jv | apply jw | apply kN | apply kM
          | (apply kf; iterate 2 exact rfl)
          | (apply ko; (· exact rfl); (· repeat (first | exact mH _ _ | apply mT)); iterate 2 exact rfl)
          | (apply ka; (· exact rfl); (· repeat (first | exact mH _ _ | apply mT)); iterate 2 exact rfl)
          | (apply kr; (· exact rfl); (· repeat (first | exact mH _ _ | apply mT)); iterate 3 exact rfl)
          | (apply ks; (· exact rfl); (· repeat (first | exact mH _ _ | apply mT)); iterate 2 exact rfl)
          | (apply kn; iterate 2 exact rfl)
          | (apply ke; iterate 2 exact rfl)
          | (apply kx; iterate 2 exact rfl)
          | (apply kc; iterate 2 exact rfl)
          | (apply kb; iterate 2 exact rfl)
          | (apply kg; iterate 2 exact rfl)
          | (apply kG; iterate 3 exact rfl)
          | (apply kB; (iterate 2 exact rfl); intro _)
          | (apply kA; exact rfl; intro _)
          | (apply kL; (iterate 3 exact rfl); (· repeat (first | exact BS.nil _ | (apply BS.int; exact rfl) | (apply BS.ptr; exact rfl) | (apply BS.slice; exact rfl) | (apply BS.agg; iterate 2 exact rfl))); intro _)
          | (apply kT; (iterate 2 exact rfl); (· repeat (first | exact sH _ _ _ | apply sT)); iterate 2 exact rfl)
          | (apply kS; (iterate 2 exact rfl); (· repeat (first | exact sH _ _ _ | apply sT)); exact rfl)
          | (apply kh; (iterate 2 exact rfl); (first | decide | omega); exact rfl)
          | (apply kl; (iterate 2 exact rfl); (first | decide | omega); exact rfl)
          )
        | (apply LR.ev; (· apply Ev.indexArr; (· exact rfl); (· exact rfl); (· first | decide | omega | (dsimp only; omega)); (· first | decide | omega | (dsimp only; omega))); (· exact rfl))
        | (refine LR.append (L' := fun a' c' => [_, _, osl (.slice a' (ps.length + 1) c') 57 4 (ps.length + 1) (pcs ps ++ (plcOf [v0, v1, v2, v3]).cells), _]) (xs := pcs ps) rfl rfl (fun a' c' => Sel.tail _ (Sel.tail _ (Sel.head _ _ _))) (fun w' hw' => hw'.rd_of_blk (List.Mem.head _)) (fun hx => by cases hx) rfl rfl (by omega) (by unfold maxLen; omega) rfl ?_; intro a5 c5)
        | (apply LR.ev; (· apply Ev.add; (· exact rfl); (· exact rfl); (· first | omega | (dsimp only; omega)); (· first | omega | (dsimp only; omega))); (· exact rfl))
        | ((first | (apply kR; (· exact rfl); (· exact rfl)) | (apply kQ; (· exact rfl))); all_goals (intro hc; try simp only [decide_eq_true_eq, decide_eq_false_iff_not, Bool.not_eq_true', Bool.not_eq_false', Bool.not_eq_true, Bool.not_eq_false, Bool.not_true, Bool.not_false, Int.not_lt, Int.not_le, List.cons.injEq, and_true, beq_iff_eq, beq_eq_false_iff_ne] at hc; try (exfalso; first | contradiction | omega)))
        )
      have el : (ps ++ [plcOf [v0, v1, v2, v3]]).length = ps.length + 1 := by simp
      apply At.again (i + 1, (a3, c3), (a5, c5), ps ++ [plcOf [v0, v1, v2, v3]], l3)
      · refine ⟨by show i + 1 ≤ _; omega, by simp [hps], ?_, hb3, hm3, ?_⟩
        · intro p hp
          simp only [List.mem_append, List.mem_singleton] at hp
          rcases hp with hp | rfl
          · exact hpi p hp
          · exact plcOf_i64 hvb
        · show rows n l0 = _
          rw [hrows, show n - (i + 1) = q by omega]
          simp
      · (repeat (first | exact Out.refl _ _ | exact Out.mix | (apply Out.upd; (· exact rfl)) | (apply Out.updL; (· exact rfl)) | (apply Out.mixs; (· exact rfl))))
      · simp only [el]
        exact ⟨rfl, rfl, trivial⟩
      · intro w' hw'
        refine hw'.tail1.tail1.cast ?_
        have ep2 : pcs ps ++ (plcOf [v0, v1, v2, v3]).cells = pcs (ps ++ [plcOf [v0, v1, v2, v3]]) := by simp [pcs]
        simp only [psl, el, ep2]
      · show n - (i + 1) < n - i; omega
  · have hq : n - i = 0 := by omega
    rw [hq] at hrows
    have hin : i = n := by omega
    have er : rows n l0 = (ps, 0, l1) := by rw [hrows]; simp [rows]
    rw [er]
    simp only
    subst hin
    rw [if_neg (by simp)]
    repeat' (
      first
      | (
        first
        | (apply kp; iterate 2 exact rfl)
        | apply ja | apply jb | apply jg | apply jj | (apply je; exact rfl) | (apply jf; exact rfl) | apply jd | apply jh | apply ji | (apply jc; kernel_rfl) | apply jk | apply jl | apply jm | apply jn | apply jo | (apply jp; exact rfl) | apply jq | apply jr | apply js | apply jt | apply ju | apply jv | apply jw | apply kN | apply kM
        | (apply kf; iterate 2 exact rfl)
        | (apply ko; (· exact rfl); (· repeat (first | exact mH _ _ | apply mT)); iterate 2 exact rfl)
        | (apply ka; (· exact rfl); (· repeat (first | exact mH _ _ | apply mT)); iterate 2 exact rfl)
        | (apply kr; (· exact rfl); (· repeat (first | exact mH _ _ | apply mT)); iterate 3 exact rfl)
        | (apply ks; (· exact rfl); (· repeat (first | exact mH _ _ | apply mT)); iterate 2 exact rfl)
        | (apply kn; iterate 2 exact rfl)
        | (apply ke; iterate 2 exact rfl)
        | (apply kx; iterate 2 exact rfl)
        | (apply kc; iterate 2 exact rfl)
        | (apply kb; iterate 2 exact rfl)
        | (apply kg; iterate 2 exact rfl)
        | (apply kG; iterate 3 exact rfl)
        | (apply kB; (iterate 2 exact rfl); intro _)
        | (apply kA; exact rfl; intro _)
        | (apply kL; (iterate 3 exact rfl); (· repeat (first | exact BS.nil _ | (apply BS.int; exact rfl) | (apply BS.ptr; exact rfl) | (apply BS.slice; exact rfl) | (apply BS.agg; iterate 2 exact rfl))); intro _)
        | (apply kT; (iterate 2 exact rfl); (· repeat (first | exact sH _ _ _ | apply sT)); iterate 2 exact rfl)
        | (apply kS; (iterate 2 exact rfl); (· repeat (first | exact sH _ _ _ | apply sT)); exact rfl)
        | (apply kh; (iterate 2 exact rfl); (first | decide | omega); exact rfl)
        | (apply kl; (iterate 2 exact rfl); (first | decide | omega); exact rfl)
        )
      | (apply LR.call; (· exact rfl); (intro w1 h1; refine (c29 _ _ ps w1 (h1.rd_of_own (List.Mem.head _)) (by omega) hpi).mono ?_; rintro v w2 ⟨a2, c2, rfl, hn⟩; refine LR.back (h1.newSl hn) ?_; clear hn h1))
      | (apply LR.qcall; (· exact rfl); (· intro w1 h1; exact CallsTo.q (c72 br a1 c1 l1 w1 (h1.holds _ (List.Mem.tail _ (List.Mem.tail _ (List.Mem.head _))))) h1))
      | ((first | (apply kR; (· exact rfl); (· exact rfl)) | (apply kQ; (· exact rfl))); all_goals (intro hc; try simp only [decide_eq_true_eq, decide_eq_false_iff_not, Bool.not_eq_true', Bool.not_eq_false', Bool.not_eq_true, Bool.not_eq_false, Bool.not_true, Bool.not_false, Int.not_lt, Int.not_le, List.cons.injEq, and_true, beq_iff_eq, beq_eq_false_iff_ne] at hc; try (exfalso; first | contradiction | omega)))
      )
    · (apply ret2; (· exact rfl); intro w' hS)
      rw [if_pos (.inl hc)]
      exact ⟨none, 0, rfl, nils w' hS.toKeep⟩
    · rename (charts ps).2 = 0 => h0
      (apply ret2; (· exact rfl); intro w' hS)
      rw [if_pos (.inr (by omega))]
      exact ⟨none, 0, rfl, nils w' hS.toKeep⟩
    · rename (charts ps).2 = 0 => h0
      (apply ret2; (· exact rfl); intro w' hS)
      rw [if_neg (by simp only [not_or, Nat.not_lt]; exact ⟨by simpa using h0, by omega⟩)]
      exact ⟨ao, co, rfl, hS.toNew (List.Mem.tail _ (List.Mem.head _))⟩
end Go.Proofs.Ytomlgnncncjmaaa
