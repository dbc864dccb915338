/-
  get: numbers into places; Places of the program.
-/
import Derived.Test.YtomlgnncncjmaaaA10
import Derived.Test.YtomlgnncncjmaaaHb8
-- all by hand
namespace Go.Proofs.Ytomlgnncncjmaaa
open Go.Hb
attribute [local irreducible] LR CW At Ev thn blk finK noG again CallsTo DW QL dnext
set_option linter.unusedSimpArgs false
set_option linter.unusedVariables false
set_option maxRecDepth 100000

/-- So many numbers at the front: those that are read, what is wrong, what is left. -/
def decs : Nat → List Int → List Int × Int × List Int
  | 0, l => ([], 0, l)
  | n + 1, l => if (dec l).2.2 ≠ 0 then ([], (dec l).2.2, l.drop (dec l).2.1) else
    ((((dec l).1 : Nat) : Int) :: (decs n (l.drop (dec l).2.1)).1, (decs n (l.drop (dec l).2.1)).2)
theorem decs_len : ∀ n l, (decs n l).1.length ≤ n ∧ ((decs n l).2.1 = 0 → (decs n l).1.length = n)
  | 0, l => by simp [decs]
  | n + 1, l => by
    unfold decs
    split
    · rename_i h; simp [h]
    · have := decs_len n (l.drop (dec l).2.1); simp; omega
theorem Byt.drop {l : List Int} (h : Byt l) (n : Nat) : Byt (l.drop n) := fun b hb => h b (List.mem_of_mem_drop hb)
theorem decs_rest : ∀ n l, ∃ k, (decs n l).2.2 = l.drop k
  | 0, l => ⟨0, by simp [decs]⟩
  | n + 1, l => by
    unfold decs
    split
    · exact ⟨_, rfl⟩
    · obtain ⟨k, hk⟩ := decs_rest n (l.drop (dec l).2.1)
      exact ⟨(dec l).2.1 + k, by simp only [hk, List.drop_drop]⟩

/-- Addresses as cells. -/
def pv (l : List Addr) : List Value := l.map fun x => .pointer (some x)
@[simp] theorem pv_length (l : List Addr) : (pv l).length = l.length := by simp [pv]
theorem pv_at {l : List Addr} {q i : Nat} (hq : q = i) (h : i < l.length) : (pv l)[q]? = some (.pointer (some (l[i]'h))) := by subst hq; simp [pv, h]

set_option maxHeartbeats 1000000 in
theorem c66 (br : Nat) (a : Option Addr) (c : Nat) (l : List Int) (b : Option Addr) (cb : Nat) (ads : List Addr) (T : List Int → Asrt) (w : World) (h : (both (rrA 120 [.bool true] br a c l) (T [])).holds w)
    (hr : Rd w b (pv ads)) (hsep : ∀ k, rdFoot b (pv ads) k → ¬ (both (rrA 120 [.bool true] br a c l) (T [])).foot k)
    (hT : ∀ vs x, (hi : vs.length < ads.length) → Stores Try.prog 3 ads[vs.length] (.int .i64 x) (T vs) (T (vs ++ [x]))) (hTe : ∀ vs, (T vs).excl = true) (hTd : ∀ vs, (T vs).dep)
    (hb : Byt l) (hm : l.length ≤ 281474976710656) (hlen : ads.length ≤ 100) :
    CallsTo Try.prog 66 [.pointer (some ⟨br, 0, none⟩), .slice b ads.length cb] w fun v w' => ∃ a' c', v = .int .i64 (decs ads.length l).2.1 ∧ Step (both (rrA 120 [.bool true] br a c l) (T [])) (both (rrA 120 [.bool true] br a' c' (decs ads.length l).2.2) (T (decs ads.length l).1)) w w' := by
  have dr : ∀ a c l, (rrA 120 [.bool true] br a c l).dep := fun a c l => rrA_dep _ _ _ _ _ _
  refine go_in (n := 27) (St.part ((St.one (a := both _ _) h h.2.2.2 (both_dep (dr _ _ _) (hTd _))).addRd hr hsep |>.swap) (dr _ _ _) (hTd _)) Try.func66 rfl rfl ?_
  repeat' (
    first
    | (
      first
      | (apply kp; iterate 2 exact rfl)
      | apply ja | apply jb | apply jg | apply jj | (apply je; exact rfl) | (apply jf; exact rfl) | apply jd | apply jh | apply ji | (apply jc; kernel_rfl) | apply jk | apply jl | apply jm | apply jn | apply jo | (apply jp; exact rfl) | apply jq | apply jr | apply js | apply jt | apply ju | apply jv | apply jw | apply kN | apply kM
      | (apply kf; iterate 2 exact rfl)
      | (apply ko; (· exact rfl); (· repeat (first | exact mH _ _ | apply mT)); iterate 2 exact rfl)
      | (apply ka; (· exact rfl); (· repeat (first | exact mH _ _ | apply mT)); iterate 2 exact rfl)
      | (apply kr; (· exact rfl); (· repeat (first | exact mH _ _ | apply mT)); iterate 3 exact rfl)
      | (apply ks; (· exact rfl); (· repeat (first | exact mH _ _ | apply mT)); iterate 2 exact rfl)
      | (apply kn; iterate 2 exact rfl)
      | (apply ke; iterate 2 exact rfl)
      | (apply kx; iterate 2 exact rfl)
      | (apply kc; iterate 2 exact rfl)
      | (apply kb; iterate 2 exact rfl)
      | (apply kg; iterate 2 exact rfl)
      | (apply kG; iterate 3 exact rfl)
      | (apply kB; (iterate 2 exact rfl); intro _)
      | (apply kA; exact rfl; intro _)
      | (apply kL; (iterate 3 exact rfl); (· repeat (first | exact BS.nil _ | (apply BS.int; exact rfl) | (apply BS.ptr; exact rfl) | (apply BS.slice; exact rfl) | (apply BS.agg; iterate 2 exact rfl))); intro _)
      | (apply kT; (iterate 2 exact rfl); (· repeat (first | exact sH _ _ _ | apply sT)); iterate 2 exact rfl)
      | (apply kS; (iterate 2 exact rfl); (· repeat (first | exact sH _ _ _ | apply sT)); exact rfl)
      | (apply kh; (iterate 2 exact rfl); (first | decide | omega); exact rfl)
      | (apply kl; (iterate 2 exact rfl); (first | decide | omega); exact rfl)
      )
    | ((first | (apply kR; (· exact rfl); (· exact rfl)) | (apply kQ; (· exact rfl))); all_goals (intro hc; try simp only [decide_eq_true_eq, decide_eq_false_iff_not, Bool.not_eq_true', Bool.not_eq_false', Bool.not_eq_true, Bool.not_eq_false, Bool.not_true, Bool.not_false, Int.not_lt, Int.not_le, List.cons.injEq, and_true, beq_iff_eq, beq_eq_false_iff_ne] at hc; try (exfalso; first | contradiction | omega)))
    )
  apply CW.loop [4, 6, 7, 8, 11, 12, 13, 14, 15, 16, 17, 18, 19, 20, 21, 22, 23, 24, 25, 26] (fun s : Nat × Option Addr × Nat × List Int × List Int => s.1 ≤ ads.length ∧ s.2.2.2.1.length = s.1 ∧ (∃ k, s.2.2.2.2 = l.drop k) ∧ decs ads.length l = (s.2.2.2.1 ++ (decs (ads.length - s.1) s.2.2.2.2).1, (decs (ads.length - s.1) s.2.2.2.2).2)) (fun s => [(11, Value.int .i64 (s.1 : Int))])
    (fun s => St w (both (rrA 120 [.bool true] br a c l) (T [])).foot [rrA 120 [.bool true] br s.2.1 s.2.2.1 s.2.2.2.2, T s.2.2.2.1, rdA b (pv ads)]) (fun s => ads.length - s.1)
  · exact fun w' hw' => ⟨(0, a, c, [], l), ⟨by simp, rfl, ⟨0, rfl⟩, by simp⟩, ⟨rfl, trivial⟩, hw'⟩
  rintro ⟨i, a1, c1, vs, l1⟩ g ⟨hi, hvs, ⟨k, hk⟩, hdec⟩
  simp only at hi hvs hk hdec ⊢
  have hb1 : Byt l1 := hk ▸ hb.drop k
  have hm1 : l1.length ≤ 281474976710656 := by rw [hk]; simp; omega
  by_cases hlt : i < ads.length
  · obtain ⟨bb, ob, rfl⟩ := hr.form (fun e => by have := congrArg List.length e; simp at this; subst this; simp at hlt)
    obtain ⟨q, hq⟩ : ∃ q, ads.length - i = q + 1 := ⟨ads.length - i - 1, by omega⟩
    rw [hq] at hdec
    have hst : ∀ x, Stores Try.prog 3 ads[i] (.int .i64 x) (T vs) (T (vs ++ [x])) := by intro x; have := hT vs x (by omega); simpa only [hvs] using this
    repeat' (
      first
      | (
        first
        | (apply kp; iterate 2 exact rfl)
        | apply ja | apply jb | apply jg | apply jj | (apply je; exact rfl) | (apply jf; exact rfl) | apply jd | apply jh | apply ji | (apply jc; kernel_rfl) | apply jk | apply jl | apply jm | apply jn | apply jo | (apply jp; exact rfl) | apply jq | apply jr | apply js | apply jt | apply ju | apply jv | apply jw | apply kN | apply kM
        | (apply kf; iterate 2 exact rfl)
        | (apply ko; (· exact rfl); (· repeat (first | exact mH _ _ | apply mT)); iterate 2 exact rfl)
        | (apply ka; (· exact rfl); (· repeat (first | exact mH _ _ | apply mT)); iterate 2 exact rfl)
        | (apply kr; (· exact rfl); (· repeat (first | exact mH _ _ | apply mT)); iterate 3 exact rfl)
        | (apply ks; (· exact rfl); (· repeat (first | exact mH _ _ | apply mT)); iterate 2 exact rfl)
        | (apply kn; iterate 2 exact rfl)
        | (apply ke; iterate 2 exact rfl)
        | (apply kx; iterate 2 exact rfl)
        | (apply kc; iterate 2 exact rfl)
        | (apply kb; iterate 2 exact rfl)
        | (apply kg; iterate 2 exact rfl)
        | (apply kG; iterate 3 exact rfl)
        | (apply kB; (iterate 2 exact rfl); intro _)
        | (apply kA; exact rfl; intro _)
        | (apply kL; (iterate 3 exact rfl); (· repeat (first | exact BS.nil _ | (apply BS.int; exact rfl) | (apply BS.ptr; exact rfl) | (apply BS.slice; exact rfl) | (apply BS.agg; iterate 2 exact rfl))); intro _)
        | (apply kT; (iterate 2 exact rfl); (· repeat (first | exact sH _ _ _ | apply sT)); iterate 2 exact rfl)
        | (apply kS; (iterate 2 exact rfl); (· repeat (first | exact sH _ _ _ | apply sT)); exact rfl)
        | (apply kh; (iterate 2 exact rfl); (first | decide | omega); exact rfl)
        | (apply kl; (iterate 2 exact rfl); (first | decide | omega); exact rfl)
        )
      | (apply LR.ev; (· apply Ev.indexAddr; (· exact rfl); (· exact rfl); (· first | omega | (dsimp only; omega)); (· first | omega | (dsimp only; omega))); (· exact rfl))
      | (apply LR.ev; (· apply Ev.load_rd; (· exact rfl); (· repeat (first | exact mH _ _ | apply mT)); (· exact pv_at (i := i) (by simp) (by omega))); (· exact rfl))
      | (apply LR.call; (· exact rfl); (intro w1 h1; refine (c73 _ _ _ _ w1 (h1.holds _ (List.Mem.head _)) hb1 hm1).mono ?_; rintro v w2 ⟨a2, c2, rfl, st⟩; refine LR.back (h1.did (Sel.head _ _ _) rfl st (rrA_dep _ _ _ _ _ _)) ?_; clear st h1))
      | (apply LR.ev; (· apply Ev.add; (· exact rfl); (· exact rfl); (· first | omega | (dsimp only; omega)); (· first | omega | (dsimp only; omega))); (· exact rfl))
      | ((first | (apply kR; (· exact rfl); (· exact rfl)) | (apply kQ; (· exact rfl))); all_goals (intro hc; try simp only [decide_eq_true_eq, decide_eq_false_iff_not, Bool.not_eq_true', Bool.not_eq_false', Bool.not_eq_true, Bool.not_eq_false, Bool.not_true, Bool.not_false, Int.not_lt, Int.not_le, List.cons.injEq, and_true, beq_iff_eq, beq_eq_false_iff_ne] at hc; try (exfalso; first | contradiction | omega)))
      )
    · (apply ret1; (· exact rfl); intro w' hS)
      have e : decs (q + 1) l1 = ([], (dec l1).2.2, l1.drop (dec l1).2.1) := by unfold decs; rw [if_pos hc]
      rw [hdec, e]
      refine ⟨a2, c2, rfl, (hS.join rfl (hTe _)).step rfl |> fun h => ?_⟩
      simpa using h
    · refine LR.store_obj (v := .int .i64 ((dec l1).1 : Int)) rfl rfl (Sel.tail _ (Sel.head _ _ _)) (hTe _) (hst _) (hTd _) ?_
      repeat' (
        first
        | (
          first
          | (apply kp; iterate 2 exact rfl)
          | apply ja | apply jb | apply jg | apply jj | (apply je; exact rfl) | (apply jf; exact rfl) | apply jd | apply jh | apply ji | (apply jc; kernel_rfl) | apply jk | apply jl | apply jm | apply jn | apply jo | (apply jp; exact rfl) | apply jq | apply jr | apply js | apply jt | apply ju | apply jv | apply jw | apply kN | apply kM
          | (apply kf; iterate 2 exact rfl)
          | (apply ko; (· exact rfl); (· repeat (first | exact mH _ _ | apply mT)); iterate 2 exact rfl)
          | (apply ka; (· exact rfl); (· repeat (first | exact mH _ _ | apply mT)); iterate 2 exact rfl)
          | (apply kr; (· exact rfl); (· repeat (first | exact mH _ _ | apply mT)); iterate 3 exact rfl)
          | (apply ks; (· exact rfl); (· repeat (first | exact mH _ _ | apply mT)); iterate 2 exact rfl)
          | (apply kn; iterate 2 exact rfl)
          | (apply ke; iterate 2 exact rfl)
          | (apply kx; iterate 2 exact rfl)
          | (apply kc; iterate 2 exact rfl)
          | (apply kb; iterate 2 exact rfl)
          | (apply kg; iterate 2 exact rfl)
          | (apply kG; iterate 3 exact rfl)
          | (apply kB; (iterate 2 exact rfl); intro _)
          | (apply kA; exact rfl; intro _)
          | (apply kL; (iterate 3 exact rfl); (· repeat (first | exact BS.nil _ | (apply BS.int; exact rfl) | (apply BS.ptr; exact rfl) | (apply BS.slice; exact rfl) | (apply BS.agg; iterate 2 exact rfl))); intro _)
          | (apply kT; (iterate 2 exact rfl); (· repeat (first | exact sH _ _ _ | apply sT)); iterate 2 exact rfl)
          | (apply kS; (iterate 2 exact rfl); (· repeat (first | exact sH _ _ _ | apply sT)); exact rfl)
          | (apply kh; (iterate 2 exact rfl); (first | decide | omega); exact rfl)
          | (apply kl; (iterate 2 exact rfl); (first | decide | omega); exact rfl)
          )
        | (apply LR.ev; (· apply Ev.add; (· exact rfl); (· exact rfl); (· first | omega | (dsimp only; omega)); (· first | omega | (dsimp only; omega))); (· exact rfl))
        | ((first | (apply kR; (· exact rfl); (· exact rfl)) | (apply kQ; (· exact rfl))); all_goals (intro hc; try simp only [decide_eq_true_eq, decide_eq_false_iff_not, Bool.not_eq_true', Bool.not_eq_false', Bool.not_eq_true, Bool.not_eq_false, Bool.not_true, Bool.not_false, Int.not_lt, Int.not_le, List.cons.injEq, and_true, beq_iff_eq, beq_eq_false_iff_ne] at hc; try (exfalso; first | contradiction | omega)))
        )
      apply At.again (i + 1, a2, c2, vs ++ [((dec l1).1 : Int)], l1.drop (dec l1).2.1)
      · refine ⟨by show i + 1 ≤ _; omega, by simp [hvs], ⟨k + (dec l1).2.1, by simp only [hk, List.drop_drop]⟩, ?_⟩
        show decs ads.length l = _
        have e : decs (q + 1) l1 = ((((dec l1).1 : Nat) : Int) :: (decs q (l1.drop (dec l1).2.1)).1, (decs q (l1.drop (dec l1).2.1)).2) := by rw [decs, if_neg (by simpa using hc)]
        rw [hdec, e, show ads.length - (i + 1) = q by omega]
        simp
      · (repeat (first | exact Out.refl _ _ | exact Out.mix | (apply Out.upd; (· exact rfl)) | (apply Out.updL; (· exact rfl)) | (apply Out.mixs; (· exact rfl))))
      · exact ⟨rfl, trivial⟩
      · exact fun w' hw' => hw'
      · show ads.length - (i + 1) < ads.length - i; omega
  · repeat' (
      first
      | (
        first
        | (apply kp; iterate 2 exact rfl)
        | apply ja | apply jb | apply jg | apply jj | (apply je; exact rfl) | (apply jf; exact rfl) | apply jd | apply jh | apply ji | (apply jc; kernel_rfl) | apply jk | apply jl | apply jm | apply jn | apply jo | (apply jp; exact rfl) | apply jq | apply jr | apply js | apply jt | apply ju | apply jv | apply jw | apply kN | apply kM
        | (apply kf; iterate 2 exact rfl)
        | (apply ko; (· exact rfl); (· repeat (first | exact mH _ _ | apply mT)); iterate 2 exact rfl)
        | (apply ka; (· exact rfl); (· repeat (first | exact mH _ _ | apply mT)); iterate 2 exact rfl)
        | (apply kr; (· exact rfl); (· repeat (first | exact mH _ _ | apply mT)); iterate 3 exact rfl)
        | (apply ks; (· exact rfl); (· repeat (first | exact mH _ _ | apply mT)); iterate 2 exact rfl)
        | (apply kn; iterate 2 exact rfl)
        | (apply ke; iterate 2 exact rfl)
        | (apply kx; iterate 2 exact rfl)
        | (apply kc; iterate 2 exact rfl)
        | (apply kb; iterate 2 exact rfl)
        | (apply kg; iterate 2 exact rfl)
        | (apply kG; iterate 3 exact rfl)
        | (apply kB; (iterate 2 exact rfl); intro _)
        | (apply kA; exact rfl; intro _)
        | (apply kL; (iterate 3 exact rfl); (· repeat (first | exact BS.nil _ | (apply BS.int; exact rfl) | (apply BS.ptr; exact rfl) | (apply BS.slice; exact rfl) | (apply BS.agg; iterate 2 exact rfl))); intro _)
        | (apply kT; (iterate 2 exact rfl); (· repeat (first | exact sH _ _ _ | apply sT)); iterate 2 exact rfl)
        | (apply kS; (iterate 2 exact rfl); (· repeat (first | exact sH _ _ _ | apply sT)); exact rfl)
        | (apply kh; (iterate 2 exact rfl); (first | decide | omega); exact rfl)
        | (apply kl; (iterate 2 exact rfl); (first | decide | omega); exact rfl)
        )
      | ((first | (apply kR; (· exact rfl); (· exact rfl)) | (apply kQ; (· exact rfl))); all_goals (intro hc; try simp only [decide_eq_true_eq, decide_eq_false_iff_not, Bool.not_eq_true', Bool.not_eq_false', Bool.not_eq_true, Bool.not_eq_false, Bool.not_true, Bool.not_false, Int.not_lt, Int.not_le, List.cons.injEq, and_true, beq_iff_eq, beq_eq_false_iff_ne] at hc; try (exfalso; first | contradiction | omega)))
      )
    (apply ret1; (· exact rfl); intro w' hS)
    have hq : ads.length - i = 0 := by omega
    rw [hq] at hdec
    rw [hdec]
    refine ⟨a1, c1, rfl, (hS.join rfl (hTe _)).step rfl |> fun h => ?_⟩
    simpa [decs] using h

theorem c66m {br : Nat} {a : Option Addr} {c : Nat} {l : List Int} {b cb m : Nat} {ads : List Addr} {E : TypeId} {T : List Int → Asrt} {w0 w : World} {F : Nat → Prop} {R : List Asrt}
    (h : St w0 F (both (rrA 120 [.bool true] br a c l) (T []) :: .own b (.cells (pv ads).toArray E (0, 0)) :: R) w) (hads : ads.length = m)
    (hT : ∀ vs x, (hi : vs.length < ads.length) → Stores Try.prog 3 ads[vs.length] (.int .i64 x) (T vs) (T (vs ++ [x]))) (hTe : ∀ vs, (T vs).excl = true) (hTd : ∀ vs, (T vs).dep)
    (hb : Byt l) (hm : l.length ≤ 281474976710656) (hlen : m ≤ 100) :
    CallsTo Try.prog 66 [.pointer (some ⟨br, 0, none⟩), .slice (some ⟨b, 0, none⟩) m cb] w fun v w' => ∃ a' c', v = .int .i64 (decs m l).2.1 ∧ St w0 F (rrA 120 [.bool true] br a' c' (decs m l).2.2 :: T (decs m l).1 :: .own b (.cells (pv ads).toArray E (0, 0)) :: R) w' := by
  subst hads
  refine (c66 br a c l (some ⟨b, 0, none⟩) cb ads T w (h.holds _ (List.Mem.head _)) (h.rd_of_blk (List.Mem.tail _ (List.Mem.head _))) (fun k hk hk2 => h.apart (List.Mem.head _) rfl k hk2 (by obtain ⟨_, ad, e, rfl⟩ := hk; cases e; rfl)) hT hTe hTd hb hm hlen).mono ?_
  rintro v w2 ⟨a2, c2, rfl, st⟩
  exact ⟨a2, c2, rfl, St.part (h.did (Sel.head _ _ _) rfl st (both_dep (rrA_dep _ _ _ _ _ _) (hTd _))) (rrA_dep _ _ _ _ _ _) (hTd _)⟩
theorem decs_bound : ∀ n l, (∀ x ∈ (decs n l).1, 0 ≤ x ∧ x ≤ 9007199254740991)
  | 0, l => by simp [decs]
  | n + 1, l => by
    unfold decs
    split
    · simp
    · rename_i h
      have ih := decs_bound n (l.drop (dec l).2.1)
      have hb := (decF_bound 8 0 0 l).2 (by simpa [dec] using h)
      intro x hx
      simp only [List.mem_cons] at hx
      rcases hx with rfl | hx
      · have : (dec l).1 ≤ 9007199254740991 := hb.2
        omega
      · exact ih x hx
def plcOf (v : List Int) : Plc := ⟨v.getD 0 0, v.getD 1 0, v.getD 2 0, v.getD 3 0⟩
/-- So many places: those that are read, what is wrong, what is left. -/
def rows : Nat → List Int → List Plc × Int × List Int
  | 0, l => ([], 0, l)
  | n + 1, l => if (decs 4 l).2.1 ≠ 0 then ([], (decs 4 l).2.1, (decs 4 l).2.2) else (plcOf (decs 4 l).1 :: (rows n (decs 4 l).2.2).1, (rows n (decs 4 l).2.2).2)
/-- The places of a body, or what is wrong. -/
def places (l : List Int) : List Plc × Int :=
  if (dec l).2.2 ≠ 0 then ([], (dec l).2.2)
  else if 4 < (dec l).1 then ([], 5)
  else if (rows (dec l).1 (l.drop (dec l).2.1)).2.1 ≠ 0 then ([], (rows (dec l).1 (l.drop (dec l).2.1)).2.1)
  else if (charts (rows (dec l).1 (l.drop (dec l).2.1)).1).2 ≠ 0 ∨ 0 < (rows (dec l).1 (l.drop (dec l).2.1)).2.2.length then ([], 4)
  else ((rows (dec l).1 (l.drop (dec l).2.1)).1, 0)
def zz (k : Nat) : List Value := List.replicate k (.int .i64 0)
theorem four {v : List Int} (h : v.length = 4) : ∃ a b c d, v = [a, b, c, d] := by
  match v, h with
  | [a, b, c, d], _ => exact ⟨a, b, c, d, rfl⟩
theorem plcOf_cells {v : List Int} (h : v.length = 4) : (plcOf v).cells = iv v := by
  obtain ⟨a, b, c, d, rfl⟩ := four h
  rfl
theorem splice_mid (A B : List Value) (z v : Value) {o : Nat} (ho : o = A.length) : splice (A ++ z :: B) o [v] = A ++ v :: B := by
  subst ho
  unfold splice
  rw [List.take_append_of_le_length (Nat.le_refl _), List.take_length]
  rw [List.drop_append]
  simp
theorem plcOf_i64 {v : List Int} (h : ∀ x ∈ v, 0 ≤ x ∧ x ≤ 9007199254740991) : i64 (plcOf v).ring ∧ i64 (plcOf v).seq ∧ i64 (plcOf v).rep ∧ i64 (plcOf v).members := by
  have : ∀ i, 0 ≤ v.getD i 0 ∧ v.getD i 0 ≤ 9007199254740991 := by
    intro i
    by_cases hi : i < v.length
    · have := h v[i] (List.getElem_mem hi)
      simpa [List.getD_eq_getElem?_getD, hi] using this
    · simp [List.getD_eq_getElem?_getD, List.getElem?_eq_none (Nat.le_of_not_lt hi)]
  unfold i64 plcOf
  have h0 := this 0; have h1 := this 1; have h2 := this 2; have h3 := this 3
  refine ⟨⟨?_, ?_⟩, ⟨?_, ?_⟩, ⟨?_, ?_⟩, ⟨?_, ?_⟩⟩ <;> (dsimp only; omega)
theorem decs_rest_len (n : Nat) (l : List Int) : (decs n l).2.2.length ≤ l.length := by
  obtain ⟨k, hk⟩ := decs_rest n l
  rw [hk]; simp
theorem decs_rest_byt (n : Nat) {l : List Int} (h : Byt l) : Byt (decs n l).2.2 := by
  obtain ⟨k, hk⟩ := decs_rest n l
  rw [hk]; exact h.drop k

end Go.Proofs.Ytomlgnncncjmaaa
