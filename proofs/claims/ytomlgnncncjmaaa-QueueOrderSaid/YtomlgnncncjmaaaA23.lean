/-
  Unpack and bytes, Pack of the reference.
-/
import Derived.Test.YtomlgnncncjmaaaA22
-- all by hand
namespace Go.Proofs.Ytomlgnncncjmaaa
open Go.Hb
attribute [local irreducible] LR CW At Ev thn blk finK noG again CallsTo DW QL dnext
set_option linter.unusedSimpArgs false
set_option linter.unusedVariables false
set_option maxRecDepth 100000

theorem decs_split : ∀ (a b : Nat) (l : List Int), decs (a + b) l = if (decs a l).2.1 ≠ 0 then decs a l else ((decs a l).1 ++ (decs b (decs a l).2.2).1, (decs b (decs a l).2.2).2)
  | 0, b, l => by simp [decs]
  | a + 1, b, l => by
    rw [show a + 1 + b = (a + b) + 1 by omega, decs, decs]
    by_cases h : (dec l).2.2 ≠ 0
    · rw [if_pos h, if_pos h, if_pos (by simpa using h)]
    · rw [if_neg h, if_neg h, decs_split a b]
      dsimp only
      split
      · rfl
      · simp

/-- What is behind the twelve numbers. -/
def endU (ck : Msg → Int) (vs l : List Int) : Msg × Int :=
  if (octs 160 l).2.1 ≠ 0 then (zeroMsg, (octs 160 l).2.1)
  else if 0 < (octs 160 l).2.2.length ∨ ck (msgOf (vs.take 8) (vs.drop 8) (octs 160 l).1) ≠ 0 then (zeroMsg, 4)
  else (msgOf (vs.take 8) (vs.drop 8) (octs 160 l).1, 0)
/-- So many numbers are still to be read. -/
def contU (ck : Msg → Int) : Nat → List Int → List Int → Msg × Int
  | 0, vs, l => endU ck vs l
  | k + 1, vs, l => if (dec l).2.2 ≠ 0 then (zeroMsg, (dec l).2.2) else if k = 4 ∧ 1 < ((dec l).1 : Int) then (zeroMsg, 4) else contU ck k (vs ++ [((dec l).1 : Int)]) (l.drop (dec l).2.1)
theorem contU_add (ck : Msg → Int) (b : Nat) : ∀ (j : Nat) (vs l : List Int), (5 ≤ b ∨ j + b ≤ 4) → contU ck (j + b) vs l = if (decs j l).2.1 ≠ 0 then (zeroMsg, (decs j l).2.1) else contU ck b (vs ++ (decs j l).1) (decs j l).2.2
  | 0, vs, l, _ => by simp [decs]
  | j + 1, vs, l, hb => by
    rw [show j + 1 + b = (j + b) + 1 by omega, contU, decs]
    by_cases h : (dec l).2.2 ≠ 0
    · rw [if_pos h, if_pos h, if_pos (by simpa using h)]
    · rw [if_neg h, if_neg h, if_neg (by omega), contU_add ck b j _ _ (by omega)]
      simp
theorem unpackW_cont (ck : Msg → Int) (l : List Int) : unpackW ck l = contU ck 12 [] l := by
  rw [show (12 : Nat) = 7 + 5 by rfl, contU_add ck 5 7 [] l (by omega)]
  have h8 : decs 8 l = _ := decs_split 7 1 l
  unfold unpackW
  rw [h8]
  by_cases h7 : (decs 7 l).2.1 ≠ 0
  · rw [if_pos h7, if_pos h7, if_pos h7]
  · rw [if_neg h7, if_neg h7]
    have hl7 := (decs_len 7 l).2 (by simpa using h7)
    generalize (decs 7 l).2.2 = r at *
    generalize (decs 7 l).1 = vs at *
    rw [contU]
    by_cases hd : (dec r).2.2 ≠ 0
    · have e1 : decs 1 r = ([], (dec r).2.2, r.drop (dec r).2.1) := by rw [decs, if_pos hd]
      rw [e1, if_pos hd]; dsimp only; rw [if_pos hd]
    · have e1 : decs 1 r = ([((dec r).1 : Int)], 0, r.drop (dec r).2.1) := by rw [decs, if_neg hd]; rfl
      have e7 : (vs ++ [((dec r).1 : Int)]).getD 7 0 = ((dec r).1 : Int) := by simp [List.getD_eq_getElem?_getD, ← hl7]
      have e8 : (vs ++ [((dec r).1 : Int)]).length = 8 := by simp [hl7]
      rw [e1, if_neg hd]
      dsimp only
      generalize (dec r).2.1 = n at *
      generalize ((dec r).1 : Int) = x at *
      simp only [ne_eq, not_true_eq_false, if_false, List.nil_append, true_and]
      rw [e7]
      by_cases h1 : 1 < x
      · rw [if_pos h1, if_pos h1]
      · rw [if_neg h1, if_neg h1]
        have h12 := contU_add ck 0 4 (vs ++ [x]) (r.drop n) (by omega)
        rw [Nat.add_zero] at h12
        rw [h12]
        by_cases h4 : (decs 4 (r.drop n)).2.1 = 0
        rotate_left
        · simp only [h4, not_false_eq_true, if_true, ne_eq]
        · simp only [h4, not_true_eq_false, if_false, ne_eq]
          unfold contU endU
          have e9 : (vs ++ [x] ++ (decs 4 (r.drop n)).1).take 8 = vs ++ [x] := by rw [List.take_append_of_le_length (Nat.le_of_eq e8.symm), List.take_of_length_le (Nat.le_of_eq e8)]
          have e10 : (vs ++ [x] ++ (decs 4 (r.drop n)).1).drop 8 = (decs 4 (r.drop n)).1 := by rw [List.drop_append, e8, List.drop_of_length_le (Nat.le_of_eq e8)]; simp
          rw [e9, e10]

set_option maxHeartbeats 4000000 in
theorem c24 {ck : Msg → Int} (l : List Int) (hck : ∀ (m : Msg) (a : Option Addr) (c : Nat) (w : World), Rd w a (bv m.body) → (a = none → c = 0) → Byt m.body → m.body.length < l.length → CallsTo Try.prog 18 [m.val a c] w fun v w' => v = .int .i64 (ck m) ∧ Grew w w')
    (a : Option Addr) (ca : Nat) (w : World) (hr : Rd w a (bv l)) (hz : a = none → ca = 0) (hm : l.length ≤ 140737488355328) (hb : Byt l) :
    CallsTo Try.prog 24 [.slice a l.length ca] w fun v w' => ∃ a2 c2, v = .tuple [(unpackW ck l).1.val a2 c2, .int .i64 (unpackW ck l).2].toArray ∧ NewSl w w' (.slice a2 (unpackW ck l).1.body.length c2) 5 1 (unpackW ck l).1.body.length (bv (unpackW ck l).1.body) := by
  refine go_in (n := 86) (St.rd1 hr) Try.func24 rfl rfl ?_
  rw [unpackW_cont]
  have nils : ∀ w', Grew w w' → NewSl w w' (.slice none 0 0) 5 1 0 (bv []) := fun w' hg => ⟨hg, World.ownsRow_nil _ _ _ _⟩
  repeat' (
    first
    | (
      first
      | (apply kp; iterate 2 exact rfl)
      | apply ja | apply jb | apply jg | apply jj | (apply je; exact rfl) | (apply jf; exact rfl) | apply jd | apply jh | apply ji | (apply jc; kernel_rfl) | apply jk | apply jl | apply jm | apply jn | apply jo | (apply jp; exact rfl) | apply jq | apply jr | apply js | apply jt | apply ju | apply jv | apply jw | apply kN | apply kM
      | (apply kf; iterate 2 exact rfl)
      | (apply ko; (· exact rfl); (· repeat (first | exact mH _ _ | apply mT)); iterate 2 exact rfl)
      | (apply ka; (· exact rfl); (· repeat (first | exact mH _ _ | apply mT)); iterate 2 exact rfl)
      | (apply kr; (· exact rfl); (· repeat (first | exact mH _ _ | apply mT)); iterate 3 exact rfl)
      | (apply ks; (· exact rfl); (· repeat (first | exact mH _ _ | apply mT)); iterate 2 exact rfl)
      | (apply kn; iterate 2 exact rfl)
      | (apply ke; iterate 2 exact rfl)
      | (apply kx; iterate 2 exact rfl)
      | (apply kc; iterate 2 exact rfl)
      | (apply kb; iterate 2 exact rfl)
      | (apply kg; iterate 2 exact rfl)
      | (apply kG; iterate 3 exact rfl)
      | (apply kB; (iterate 2 exact rfl); intro _)
      | (apply kA; exact rfl; intro _)
      | (apply kL; (iterate 3 exact rfl); (· repeat (first | exact BS.nil _ | (apply BS.int; exact rfl) | (apply BS.ptr; exact rfl) | (apply BS.slice; exact rfl) | (apply BS.agg; iterate 2 exact rfl))); intro _)
      | (apply kT; (iterate 2 exact rfl); (· repeat (first | exact sH _ _ _ | apply sT)); iterate 2 exact rfl)
      | (apply kS; (iterate 2 exact rfl); (· repeat (first | exact sH _ _ _ | apply sT)); exact rfl)
      | (apply kh; (iterate 2 exact rfl); (first | decide | omega); exact rfl)
      | (apply kl; (iterate 2 exact rfl); (first | decide | omega); exact rfl)
      )
    | (apply LR.call; (· exact rfl); (intro w1 h1; refine (c69 a ca l w1 (h1.rd_of (by (repeat (first | exact mH _ _ | apply mT)))) hz hm).mono ?_; rintro v w2 ⟨br, a1, c1, rfl, hn⟩; refine LR.back (h1.got hn (rrA_dep _ _ _ _ _ _)) ?_; clear hn h1))
    | ((first | (apply kR; (· exact rfl); (· exact rfl)) | (apply kQ; (· exact rfl))); all_goals (intro hc; try simp only [decide_eq_true_eq, decide_eq_false_iff_not, Bool.not_eq_true', Bool.not_eq_false', Bool.not_eq_true, Bool.not_eq_false, Bool.not_true, Bool.not_false, Int.not_lt, Int.not_le, List.cons.injEq, and_true, beq_iff_eq, beq_eq_false_iff_ne] at hc; try (exfalso; first | contradiction | omega)))
    )
  rename_i bz ba
  apply CW.loop [3, 6, 7, 8, 14, 15, 16, 17, 18, 19, 20, 21, 22, 23, 24, 25, 26, 27, 28, 29, 30, 31, 32, 33, 34, 35, 36] (fun s : Nat × Option Addr × Nat × List Int × List Int => s.1 ≤ 12 ∧ s.2.2.2.1.length = s.1 ∧ Byt s.2.2.2.2 ∧ s.2.2.2.2.length ≤ l.length ∧ contU ck 12 [] l = contU ck (12 - s.1) s.2.2.2.1 s.2.2.2.2) (fun s => [(6, Value.int .i64 (s.1 : Int))])
    (fun s => St w NoF [.own ba (.cells (iv s.2.2.2.1 ++ zz (12 - s.1)).toArray 103 (0, 0)), rrA 125 [] br s.2.1 s.2.2.1 s.2.2.2.2, .own bz (.cells (zeroMsg.cells none 0).toArray 28 (0, 0))]) (fun s => 12 - s.1)
  · exact fun w' hw' => ⟨(0, a1, c1, [], l), ⟨by simp, rfl, hb, by simp, rfl⟩, ⟨rfl, trivial⟩, hw'.sub (List.Sublist.cons_cons _ (List.Sublist.cons_cons _ (List.Sublist.cons_cons _ (List.nil_sublist _))))⟩
  rintro ⟨i, a3, c3, vs, l3⟩ g ⟨hi, hvs, hb3, hm3, heq⟩
  simp only at hi hvs hb3 hm3 heq ⊢
  rw [heq]
  by_cases hlt : i < 12
  · obtain ⟨q, hq⟩ : ∃ q, 12 - i = q + 1 := ⟨12 - i - 1, by omega⟩
    rw [hq] at heq ⊢
    repeat' (
      first
      | (
        first
        | (apply kp; iterate 2 exact rfl)
        | apply ja | apply jb | apply jg | apply jj | (apply je; exact rfl) | (apply jf; exact rfl) | apply jd | apply jh | apply ji | (apply jc; kernel_rfl) | apply jk | apply jl | apply jm | apply jn | apply jo | (apply jp; exact rfl) | apply jq | apply jr | apply js | apply jt | apply ju | apply jv | apply jw | apply kN | apply kM
        | (apply kf; iterate 2 exact rfl)
        | (apply ko; (· exact rfl); (· repeat (first | exact mH _ _ | apply mT)); iterate 2 exact rfl)
        | (apply ka; (· exact rfl); (· repeat (first | exact mH _ _ | apply mT)); iterate 2 exact rfl)
        | (apply kr; (· exact rfl); (· repeat (first | exact mH _ _ | apply mT)); iterate 3 exact rfl)
        | (apply ks; (· exact rfl); (· repeat (first | exact mH _ _ | apply mT)); iterate 2 exact rfl)
        | (apply kn; iterate 2 exact rfl)
        | (apply ke; iterate 2 exact rfl)
        | (apply kx; iterate 2 exact rfl)
        | (apply kc; iterate 2 exact rfl)
        | (apply kb; iterate 2 exact rfl)
        | (apply kg; iterate 2 exact rfl)
        | (apply kG; iterate 3 exact rfl)
        | (apply kB; (iterate 2 exact rfl); intro _)
        | (apply kA; exact rfl; intro _)
        | (apply kL; (iterate 3 exact rfl); (· repeat (first | exact BS.nil _ | (apply BS.int; exact rfl) | (apply BS.ptr; exact rfl) | (apply BS.slice; exact rfl) | (apply BS.agg; iterate 2 exact rfl))); intro _)
        | (apply kT; (iterate 2 exact rfl); (· repeat (first | exact sH _ _ _ | apply sT)); iterate 2 exact rfl)
        | (apply kS; (iterate 2 exact rfl); (· repeat (first | exact sH _ _ _ | apply sT)); exact rfl)
        | (apply kh; (iterate 2 exact rfl); (first | decide | omega); exact rfl)
        | (apply kl; (iterate 2 exact rfl); (first | decide | omega); exact rfl)
        )
      | (apply LR.ev; (· apply Ev.indexArr; (· exact rfl); (· exact rfl); (· first | decide | omega | (dsimp only; omega)); (· first | decide | omega | (dsimp only; omega))); (· exact rfl))
      | (apply LR.call; (· exact rfl); (intro w1 h1; refine (c70 _ _ _ l3 w1 h1.g1 hb3 (by omega)).mono ?_; rintro v w2 ⟨a4, c4, rfl, st⟩; refine LR.back (h1.did (Sel.tail _ (Sel.head _ _ _)) rfl st (rrA_dep _ _ _ _ _ _)) ?_; clear st h1))
      | ((first | (apply kR; (· exact rfl); (· exact rfl)) | (apply kQ; (· exact rfl))); all_goals (intro hc; try simp only [decide_eq_true_eq, decide_eq_false_iff_not, Bool.not_eq_true', Bool.not_eq_false', Bool.not_eq_true, Bool.not_eq_false, Bool.not_true, Bool.not_false, Int.not_lt, Int.not_le, List.cons.injEq, and_true, beq_iff_eq, beq_eq_false_iff_ne] at hc; try (exfalso; first | contradiction | omega)))
      )
    · (apply ret2c; (· exact rfl); (· exact inferInstance); (· exact rfl); (· (repeat (first | exact List.Mem.head _ | apply List.Mem.tail))); (· exact rfl); intro w' hS)
      have e : contU ck (q + 1) vs l3 = (zeroMsg, (dec l3).2.2) := by rw [contU, if_pos hc]
      rw [e]
      exact ⟨none, 0, rfl, nils w' hS.toKeep⟩
    · (apply ret2c; (· exact rfl); (· exact inferInstance); (· exact rfl); (· (repeat (first | exact List.Mem.head _ | apply List.Mem.tail))); (· exact rfl); intro w' hS)
      rename (dec l3).2.2 = 0 => hd
      rename ((i : Int) = 7) => hi7
      have e : contU ck (q + 1) vs l3 = (zeroMsg, 4) := by rw [contU, if_neg (by simpa using hd), if_pos ⟨by omega, hc⟩]
      rw [e]
      exact ⟨none, 0, rfl, nils w' hS.toKeep⟩
    all_goals (
      rename (dec l3).2.2 = 0 => hd
      have e : contU ck (q + 1) vs l3 = contU ck q (vs ++ [((dec l3).1 : Int)]) (l3.drop (dec l3).2.1) := by rw [contU, if_neg (by simpa using hd), if_neg (by omega)]
      refine LR.store_obj (v := .int .i64 ((dec l3).1 : Int)) (z' := .own ba (.cells (iv (vs ++ [((dec l3).1 : Int)]) ++ zz q).toArray 103 (0, 0))) rfl rfl (sH _ _ _) rfl ?_ (Asrt.dep_own _ _) ?_
      · have st := Stores.own (P := Try.prog) (T := 3) (m := 1) (b := ba) (o := 0 + (i : Int).toNat * 1) (v := .int .i64 ((dec l3).1 : Int)) (cs := iv vs ++ zz (q + 1)) (vs := [.int .i64 ((dec l3).1 : Int)]) (E := 103) inferInstance rfl rfl rfl (by
          simp [hvs, zz])
        have e2 : zz (q + 1) = .int .i64 0 :: zz q := rfl
        rw [e2, splice_mid _ _ _ _ (by simp [hvs])] at st
        rw [e2]
        simpa [iv] using st
      repeat' (
        first
        | (
          first
          | (apply kp; iterate 2 exact rfl)
          | apply ja | apply jb | apply jg | apply jj | (apply je; exact rfl) | (apply jf; exact rfl) | apply jd | apply jh | apply ji | (apply jc; kernel_rfl) | apply jk | apply jl | apply jm | apply jn | apply jo | (apply jp; exact rfl) | apply jq | apply jr | apply js | apply jt | apply ju | apply jv | apply jw | apply kN | apply kM
          | (apply kf; iterate 2 exact rfl)
          | (apply ko; (· exact rfl); (· repeat (first | exact mH _ _ | apply mT)); iterate 2 exact rfl)
          | (apply ka; (· exact rfl); (· repeat (first | exact mH _ _ | apply mT)); iterate 2 exact rfl)
          | (apply kr; (· exact rfl); (· repeat (first | exact mH _ _ | apply mT)); iterate 3 exact rfl)
          | (apply ks; (· exact rfl); (· repeat (first | exact mH _ _ | apply mT)); iterate 2 exact rfl)
          | (apply kn; iterate 2 exact rfl)
          | (apply ke; iterate 2 exact rfl)
          | (apply kx; iterate 2 exact rfl)
          | (apply kc; iterate 2 exact rfl)
          | (apply kb; iterate 2 exact rfl)
          | (apply kg; iterate 2 exact rfl)
          | (apply kG; iterate 3 exact rfl)
          | (apply kB; (iterate 2 exact rfl); intro _)
          | (apply kA; exact rfl; intro _)
          | (apply kL; (iterate 3 exact rfl); (· repeat (first | exact BS.nil _ | (apply BS.int; exact rfl) | (apply BS.ptr; exact rfl) | (apply BS.slice; exact rfl) | (apply BS.agg; iterate 2 exact rfl))); intro _)
          | (apply kT; (iterate 2 exact rfl); (· repeat (first | exact sH _ _ _ | apply sT)); iterate 2 exact rfl)
          | (apply kS; (iterate 2 exact rfl); (· repeat (first | exact sH _ _ _ | apply sT)); exact rfl)
          | (apply kh; (iterate 2 exact rfl); (first | decide | omega); exact rfl)
          | (apply kl; (iterate 2 exact rfl); (first | decide | omega); exact rfl)
          )
        | (apply LR.ev; (· apply Ev.add; (· exact rfl); (· exact rfl); (· first | omega | (dsimp only; omega)); (· first | omega | (dsimp only; omega))); (· exact rfl))
        | ((first | (apply kR; (· exact rfl); (· exact rfl)) | (apply kQ; (· exact rfl))); all_goals (intro hc; try simp only [decide_eq_true_eq, decide_eq_false_iff_not, Bool.not_eq_true', Bool.not_eq_false', Bool.not_eq_true, Bool.not_eq_false, Bool.not_true, Bool.not_false, Int.not_lt, Int.not_le, List.cons.injEq, and_true, beq_iff_eq, beq_eq_false_iff_ne] at hc; try (exfalso; first | contradiction | omega)))
        )
      apply At.again (i + 1, a4, c4, vs ++ [((dec l3).1 : Int)], l3.drop (dec l3).2.1)
      · refine ⟨by show i + 1 ≤ _; omega, by simp [hvs], hb3.drop _, by simp; omega, ?_⟩
        show contU ck (q + 1) vs l3 = _
        rw [e, show 12 - (i + 1) = q by omega]
      · (repeat (first | exact Out.refl _ _ | exact Out.mix | (apply Out.upd; (· exact rfl)) | (apply Out.updL; (· exact rfl)) | (apply Out.mixs; (· exact rfl))))
      · exact ⟨rfl, trivial⟩
      · intro w' hw'
        simp only [show 12 - (i + 1) = q by omega]
        exact hw'
      · show 12 - (i + 1) < 12 - i; omega)
  · have hi12 : i = 12 := by omega
    subst hi12
    obtain ⟨v0, v1, v2, v3, v4, v5, v6, v7, x0, x1, x2, x3, rfl⟩ : ∃ v0 v1 v2 v3 v4 v5 v6 v7 x0 x1 x2 x3, vs = [v0, v1, v2, v3, v4, v5, v6, v7, x0, x1, x2, x3] := by
      match vs, hvs with
      | [a, b, c, d, e, f, g, h, i, j, k, l], _ => exact ⟨a, b, c, d, e, f, g, h, i, j, k, l, rfl⟩
    rw [show 12 - 12 = 0 from rfl, contU]
    have eu : endU ck [v0, v1, v2, v3, v4, v5, v6, v7, x0, x1, x2, x3] l3 = if (octs 160 l3).2.1 ≠ 0 then (zeroMsg, (octs 160 l3).2.1)
        else if 0 < (octs 160 l3).2.2.length ∨ ck (msgOf [v0, v1, v2, v3, v4, v5, v6, v7] [x0, x1, x2, x3] (octs 160 l3).1) ≠ 0 then (zeroMsg, 4)
        else (msgOf [v0, v1, v2, v3, v4, v5, v6, v7] [x0, x1, x2, x3] (octs 160 l3).1, 0) := rfl
    rw [eu]
    repeat' (
      first
      | (
        first
        | (apply kp; iterate 2 exact rfl)
        | apply ja | apply jb | apply jg | apply jj | (apply je; exact rfl) | (apply jf; exact rfl) | apply jd | apply jh | apply ji | (apply jc; kernel_rfl) | apply jk | apply jl | apply jm | apply jn | apply jo | (apply jp; exact rfl) | apply jq | apply jr | apply js | apply jt | apply ju | apply jv | apply jw | apply kN | apply kM
        | (apply kf; iterate 2 exact rfl)
        | (apply ko; (· exact rfl); (· repeat (first | exact mH _ _ | apply mT)); iterate 2 exact rfl)
        | (apply ka; (· exact rfl); (· repeat (first | exact mH _ _ | apply mT)); iterate 2 exact rfl)
        | (apply kr; (· exact rfl); (· repeat (first | exact mH _ _ | apply mT)); iterate 3 exact rfl)
        | (apply ks; (· exact rfl); (· repeat (first | exact mH _ _ | apply mT)); iterate 2 exact rfl)
        | (apply kn; iterate 2 exact rfl)
        | (apply ke; iterate 2 exact rfl)
        | (apply kx; iterate 2 exact rfl)
        | (apply kc; iterate 2 exact rfl)
        | (apply kb; iterate 2 exact rfl)
        | (apply kg; iterate 2 exact rfl)
        | (apply kG; iterate 3 exact rfl)
        | (apply kB; (iterate 2 exact rfl); intro _)
        | (apply kA; exact rfl; intro _)
        | (apply kL; (iterate 3 exact rfl); (· repeat (first | exact BS.nil _ | (apply BS.int; exact rfl) | (apply BS.ptr; exact rfl) | (apply BS.slice; exact rfl) | (apply BS.agg; iterate 2 exact rfl))); intro _)
        | (apply kT; (iterate 2 exact rfl); (· repeat (first | exact sH _ _ _ | apply sT)); iterate 2 exact rfl)
        | (apply kS; (iterate 2 exact rfl); (· repeat (first | exact sH _ _ _ | apply sT)); exact rfl)
        | (apply kh; (iterate 2 exact rfl); (first | decide | omega); exact rfl)
        | (apply kl; (iterate 2 exact rfl); (first | decide | omega); exact rfl)
        )
      | (apply LR.call; (· exact rfl); (intro w1 h1; refine (c71 br a3 c3 l3 160 w1 h1.g1 hb3 (by omega)).mono ?_; rintro v w2 ⟨a4, c4, a5, c5, rfl, st⟩; refine LR.back (h1.did1 (Sel.tail _ (Sel.head _ _ _)) rfl rfl rfl st) ?_; clear st h1))
      | (apply LR.ev; (· apply Ev.indexArr; (· exact rfl); (· exact rfl); (· first | decide | omega | (dsimp only; omega)); (· first | decide | omega | (dsimp only; omega))); (· exact rfl))
      | ((first | (apply kR; (· exact rfl); (· exact rfl)) | (apply kQ; (· exact rfl))); all_goals (intro hc; try simp only [decide_eq_true_eq, decide_eq_false_iff_not, Bool.not_eq_true', Bool.not_eq_false', Bool.not_eq_true, Bool.not_eq_false, Bool.not_true, Bool.not_false, Int.not_lt, Int.not_le, List.cons.injEq, and_true, beq_iff_eq, beq_eq_false_iff_ne] at hc; try (exfalso; first | contradiction | omega)))
      )
    · (apply ret2c; (· exact rfl); (· exact inferInstance); (· exact rfl); (· (repeat (first | exact List.Mem.head _ | apply List.Mem.tail))); (· exact rfl); intro w' hS)
      rw [if_pos (by assumption)]
      exact ⟨none, 0, rfl, nils w' hS.toKeep⟩
    rename (octs 160 l3).2.1 = 0 => ho
    have hof := octs_facts ho
    repeat' (
      first
      | (
        first
        | (apply kp; iterate 2 exact rfl)
        | apply ja | apply jb | apply jg | apply jj | (apply je; exact rfl) | (apply jf; exact rfl) | apply jd | apply jh | apply ji | (apply jc; kernel_rfl) | apply jk | apply jl | apply jm | apply jn | apply jo | (apply jp; exact rfl) | apply jq | apply jr | apply js | apply jt | apply ju | apply jv | apply jw | apply kN | apply kM
        | (apply kf; iterate 2 exact rfl)
        | (apply ko; (· exact rfl); (· repeat (first | exact mH _ _ | apply mT)); iterate 2 exact rfl)
        | (apply ka; (· exact rfl); (· repeat (first | exact mH _ _ | apply mT)); iterate 2 exact rfl)
        | (apply kr; (· exact rfl); (· repeat (first | exact mH _ _ | apply mT)); iterate 3 exact rfl)
        | (apply ks; (· exact rfl); (· repeat (first | exact mH _ _ | apply mT)); iterate 2 exact rfl)
        | (apply kn; iterate 2 exact rfl)
        | (apply ke; iterate 2 exact rfl)
        | (apply kx; iterate 2 exact rfl)
        | (apply kc; iterate 2 exact rfl)
        | (apply kb; iterate 2 exact rfl)
        | (apply kg; iterate 2 exact rfl)
        | (apply kG; iterate 3 exact rfl)
        | (apply kB; (iterate 2 exact rfl); intro _)
        | (apply kA; exact rfl; intro _)
        | (apply kL; (iterate 3 exact rfl); (· repeat (first | exact BS.nil _ | (apply BS.int; exact rfl) | (apply BS.ptr; exact rfl) | (apply BS.slice; exact rfl) | (apply BS.agg; iterate 2 exact rfl))); intro _)
        | (apply kT; (iterate 2 exact rfl); (· repeat (first | exact sH _ _ _ | apply sT)); iterate 2 exact rfl)
        | (apply kS; (iterate 2 exact rfl); (· repeat (first | exact sH _ _ _ | apply sT)); exact rfl)
        | (apply kh; (iterate 2 exact rfl); (first | decide | omega); exact rfl)
        | (apply kl; (iterate 2 exact rfl); (first | decide | omega); exact rfl)
        )
      | (apply kq; (· exact rfl); (· intro w1 h1; exact CallsTo.q (c72 br _ _ _ w1 h1.g3) h1))
      | (apply kq; (· exact rfl); (· intro w1 h1; have hq := CallsTo.q (hck (msgOf [v0, v1, v2, v3, v4, v5, v6, v7] [x0, x1, x2, x3] (octs 160 l3).1) a5 c5 w1 (ownsRow_rd h1.g1) (fun e => (ownsRow_some h1.g1 e).2) (fun b hb' => hb3 b (hof.2 b hb')) (Nat.lt_of_lt_of_le hof.1 hm3)) h1; show CallsTo Try.prog 18 [(msgOf [v0, v1, v2, v3, v4, v5, v6, v7] [x0, x1, x2, x3] (octs 160 l3).1).val a5 c5] w1 _; exact hq))
      | ((first | (apply kR; (· exact rfl); (· exact rfl)) | (apply kQ; (· exact rfl))); all_goals (intro hc; try simp only [decide_eq_true_eq, decide_eq_false_iff_not, Bool.not_eq_true', Bool.not_eq_false', Bool.not_eq_true, Bool.not_eq_false, Bool.not_true, Bool.not_false, Int.not_lt, Int.not_le, List.cons.injEq, and_true, beq_iff_eq, beq_eq_false_iff_ne] at hc; try (exfalso; first | contradiction | omega)))
      )
    · (apply ret2c; (· exact rfl); (· exact inferInstance); (· exact rfl); (· (repeat (first | exact List.Mem.head _ | apply List.Mem.tail))); (· exact rfl); intro w' hS)
      rw [if_neg (by simpa using ho), if_pos (.inl (by omega))]
      exact ⟨none, 0, rfl, nils w' hS.toKeep⟩
    · (apply ret2c; (· exact rfl); (· exact inferInstance); (· exact rfl); (· (repeat (first | exact List.Mem.head _ | apply List.Mem.tail))); (· exact rfl); intro w' hS)
      rw [if_neg (by simpa using ho), if_pos (.inr (by assumption))]
      exact ⟨none, 0, rfl, nils w' hS.toKeep⟩
    · rename ck _ = 0 => hck0
      (apply ret2c; (· exact rfl); (· exact inferInstance); (· exact rfl); (· (repeat (first | exact List.Mem.head _ | apply List.Mem.tail))); (· exact rfl); intro w' hS)
      rw [if_neg (by simpa using ho), if_neg (by simp only [not_or, Nat.not_lt]; exact ⟨by omega, by simpa using hck0⟩)]
      exact ⟨a5, c5, rfl, hS.toNew (mT _ (mH _ _))⟩

theorem unp_all2 : ∀ K, UnpC 24 K
  | 0 => fun a ca l w hr hz hm hb hK => c24 (ck := fun _ => 2) l (fun m a c w _ _ _ h => by omega) a ca w hr hz hm hb
  | K + 1 => fun a ca l w hr hz hm hb hK => c24 (ck := checkM (unpackF K)) l (fun m a c w h1 h2 h3 h4 => c18 (unp_all2 K) m a c w h1 h2 (by omega) h3 (fun _ => by omega)) a ca w hr hz hm hb
theorem d24 (a : Option Addr) (ca : Nat) (l : List Int) (w : World) (hr : Rd w a (bv l)) (hz : a = none → ca = 0) (hm : l.length ≤ 140737488355328) (hb : Byt l) :
    CallsTo Try.prog 24 [.slice a l.length ca] w fun v w' => ∃ a2 c2, v = .tuple [(unpack l).1.val a2 c2, .int .i64 (unpack l).2].toArray ∧ NewSl w w' (.slice a2 (unpack l).1.body.length c2) 5 1 (unpack l).1.body.length (bv (unpack l).1.body) :=
  unp_all2 l.length a ca l w hr hz hm hb (Nat.le_refl _)
theorem d18 (m : Msg) (a : Option Addr) (c : Nat) (w : World) (hr : Rd w a (bv m.body)) (hz : a = none → c = 0) (hm : m.body.length ≤ 140737488355328) (hb : Byt m.body) :
    CallsTo Try.prog 18 [m.val a c] w fun v w' => v = .int .i64 (check m) ∧ Grew w w' := by
  have := c18 (unp_all2 m.body.length) m a c w hr hz hm hb (fun _ => Nat.le_refl _)
  rwa [check_of (Nat.le_refl _)] at this
end Go.Proofs.Ytomlgnncncjmaaa
