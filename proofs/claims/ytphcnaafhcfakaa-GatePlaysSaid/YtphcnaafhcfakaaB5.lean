/-
  What is wanted is asked for once, and marked: the law of stamps.
-/
import Derived.Test.YtphcnaafhcfakaaB4
import Derived.Test.YtphcnaafhcfakaaA31
-- all by hand
namespace Go.Proofs.Ytphcnaafhcfakaa
open Go.Hb Go.ChangeShapes Go.WideShapes
attribute [local irreducible] LR CW At Ev thn blk finK noG again CallsTo DW QL dnext TW
set_option linter.unusedSimpArgs false
set_option linter.unusedVariables false
set_option maxRecDepth 100000

theorem zeroK_eq : zeroK = kK 0 := rfl
theorem okK_kK {x : Int} (h : 0 ≤ x) (h2 : x ≤ 9007199254740991) : okK (kK x) := by
  unfold okK keyE keyB ringB
  simp only [kK, numB_iff]
  rw [if_pos]
  simp [h, h2]
theorem above_kK {x y : Int} (h : 0 ≤ x) (h2 : x ≤ 9007199254740991) : aboveB (kK x) (kK y) = decide (y < x) := by
  have h3 := okK_kK h h2
  unfold aboveB
  rw [Bool.eq_iff_iff]
  simp only [decide_eq_true_eq, h3, true_and]
  have e : keysI (kK x) (kK y) = cmpI x y := by
    show orL [cmpI x y, orL [cmpI 0 0, cmpI 0 0], cmpI 0 0] = _
    rw [show cmpI 0 0 = 0 from rfl]
    simp [orL]
    exact fun h => h.symm
  rw [e]
  unfold cmpI
  split <;> (try split) <;> omega
def Gw (q : Int) (asked : Bool) (x : Int) : Gt := ⟨2, kK x, kK q, if asked = true then kK q else zeroK⟩
theorem check_at : check (atI 0).m = 0 := by kernel_rfl
theorem pass_at {p : Int} (h : 1 ≤ p) (h2 : p ≤ 1000) : passB (newG 2) (atI p) = true ∧ passS (newG 2) (atI p) = ⟨2, kK p, zeroK, zeroK⟩ := by
  have e : passB (newG 2) (atI p) = true := by
    unfold passB
    rw [show (atI p).k = kK p from rfl, show (newG 2).p = kK 0 from rfl, above_kK (by omega) (by omega)]
    have : itemB (newG 2) (atI p) = true := by
      unfold itemB
      rw [if_neg (by show ¬ ((1 : Int) = 0); omega), if_pos (.inl rfl)]
      exact decide_eq_true check_at
    rw [this]
    simp; omega
  refine ⟨e, ?_⟩
  unfold passS
  rw [if_pos e]
  rfl
theorem want_at {p q : Int} (h : 1 ≤ q) (h2 : q ≤ 1000) : wantS ⟨2, kK p, zeroK, zeroK⟩ (kK q) = Gw q false p := by
  unfold wantS
  rw [show (Gt.mk 2 (kK p) zeroK zeroK).w = kK 0 from rfl, above_kK (by omega) (by omega), if_pos (by simp; omega)]
  rfl
theorem owes_w {q x : Int} {asked : Bool} (h : 1 ≤ q) (h2 : q ≤ 1000) : owesB (Gw q asked x) = decide (x < q) := by
  unfold owesB
  rw [show (Gw q asked x).w = kK q from rfl, show (Gw q asked x).p = kK x from rfl, above_kK (by omega) (by omega)]
  simp [Gw]
theorem ask_w {q x b : Int} {asked : Bool} (h : 1 ≤ q) (h2 : q ≤ 1000) (hb : 0 ≤ b) (hb2 : b ≤ 1200) : askB (Gw q asked x) (kK b) = (decide (x < q) && decide (b < q) && !asked) := by
  unfold askB
  rw [owes_w h h2, show (Gw q asked x).w = kK q from rfl, above_kK (by omega) (by omega)]
  have e : aboveB (kK q) (Gw q asked x).a = !asked := by
    cases asked
    · rw [show (Gw q false x).a = kK 0 from rfl, above_kK (by omega) (by omega)]; simp; omega
    · rw [show (Gw q true x).a = kK q from rfl, above_kK (by omega) (by omega)]; simp
  rw [e]
  simp [okK_kK hb (show b ≤ 9007199254740991 by omega)]
theorem mark_w {q x b : Int} {asked : Bool} (h : 1 ≤ q) (h2 : q ≤ 1000) (hb : 0 ≤ b) (hb2 : b ≤ 1200) : markB (Gw q asked x) (kK b) = (decide (x < q) && !decide (b < q)) := by
  unfold markB
  rw [owes_w h h2, show (Gw q asked x).w = kK q from rfl, above_kK (by omega) (by omega)]
  simp [okK_kK hb (show b ≤ 9007199254740991 by omega)]

theorem askS_w {q x b : Int} {asked : Bool} (h : 1 ≤ q) (h2 : q ≤ 1000) (hb : 0 ≤ b) (hb2 : b ≤ 1200) : askS (Gw q asked x) (kK b) = Gw q (asked || (decide (x < q) && decide (b < q) && !asked)) x ∧ askK (Gw q asked x) (kK b) = if (decide (x < q) && decide (b < q) && !asked) = true then kK q else zeroK := by
  unfold askS askK
  rw [ask_w h h2 hb hb2]
  generalize (decide (x < q) && decide (b < q)) = z
  cases z <;> cases asked <;> exact ⟨rfl, rfl⟩
theorem markS_w {q x b : Int} {asked : Bool} (h : 1 ≤ q) (h2 : q ≤ 1000) (hb : 0 ≤ b) (hb2 : b ≤ 1200) : markS (Gw q asked x) (kK b) = Gw q asked (if (decide (x < q) && !decide (b < q)) = true then b else x) ∧ markM (Gw q asked x) (kK b) = if (decide (x < q) && !decide (b < q)) = true then ⟨2, 2, 0, 0, 0, 0, 0, false, b, 0, 0, 0, []⟩ else zeroMsg := by
  unfold markS markM
  rw [mark_w h h2 hb hb2]
  generalize (decide (x < q) && !decide (b < q)) = z
  cases z <;> exact ⟨rfl, rfl⟩
theorem g38w (b : Nat) (q x : Int) (asked : Bool) (w : World) (h : w.heap[b]? = some (.cells (Gw q asked x).cells.toArray 95 (0, 0))) : CallsTo Try.prog 38 [.pointer (some ⟨b, 0, none⟩)] w fun v w' => Step (gO 95 b (Gw q asked x)) (gO 95 b (Gw q false x)) w w' :=
  g38 b (Gw q asked x) w h (by show (2 : Int) ≠ 0; decide)

set_option maxHeartbeats 8000000 in
theorem g8 (p0 q0 : Int) (a : Option Addr) (c : Nat) (l : List Int) (w : World) (hr : Rd w a (iv l)) (hm : l.length ≤ 140737488351232) :
    CallsTo Try.prog 8 [.int .i64 p0, .int .i64 q0, .slice a l.length c] w fun v w' => v = .bool true ∧ Grew w w' := by
  refine go_in (n := 124) (St.rd1 hr) Try.func8 rfl rfl ?_
  have hp := bring_bd p0 1000 (by omega)
  have hq := bring_bd q0 1000 (by omega)
  repeat' (
    first
    | (
      first
      | (apply kp; iterate 2 exact rfl)
      | apply ja | apply jb | apply jg | apply jj | (apply je; exact rfl) | (apply jf; exact rfl) | apply jd | apply jh | apply ji | (apply jc; kernel_rfl) | apply jk | apply jl | apply jm | apply jn | apply jo | (apply jp; exact rfl) | apply jq | apply jr | apply js | apply jt | apply ju | apply jv | apply jw | apply kN | apply kM
      | (apply kf; iterate 2 exact rfl)
      | (apply ko; (· exact rfl); (· repeat (first | exact mH _ _ | apply mT)); iterate 2 exact rfl)
      | (apply ka; (· exact rfl); (· repeat (first | exact mH _ _ | apply mT)); iterate 2 exact rfl)
      | (apply kr; (· exact rfl); (· repeat (first | exact mH _ _ | apply mT)); iterate 3 exact rfl)
      | (apply ks; (· exact rfl); (· repeat (first | exact mH _ _ | apply mT)); iterate 2 exact rfl)
      | (apply kn; iterate 2 exact rfl)
      | (apply ke; iterate 2 exact rfl)
      | (apply kx; iterate 2 exact rfl)
      | (apply kc; iterate 2 exact rfl)
      | (apply kb; iterate 2 exact rfl)
      | (apply kg; iterate 2 exact rfl)
      | (apply kG; iterate 3 exact rfl)
      | (apply kB; (iterate 2 exact rfl); intro _)
      | (apply kA; exact rfl; intro _)
      | (apply kL; (iterate 3 exact rfl); (· repeat (first | exact BS.nil _ | (apply BS.int; exact rfl) | (apply BS.ptr; exact rfl) | (apply BS.slice; exact rfl) | (apply BS.agg; iterate 2 exact rfl))); intro _)
      | (apply kT; (iterate 2 exact rfl); (· repeat (first | exact sH _ _ _ | apply sT)); iterate 2 exact rfl)
      | (apply kS; (iterate 2 exact rfl); (· repeat (first | exact sH _ _ _ | apply sT)); exact rfl)
      | (apply kh; (iterate 2 exact rfl); (first | decide | omega); exact rfl)
      | (apply kl; (iterate 2 exact rfl); (first | decide | omega); exact rfl)
      )
    | (apply kq; (· exact rfl); (· intro w1 h1; exact CallsTo.q (g30 w1) h1))
    | ((first | (apply kR; (· exact rfl); (· exact rfl)) | (apply kQ; (· exact rfl))); all_goals (intro hc; try simp only [decide_eq_true_eq, decide_eq_false_iff_not, Bool.not_eq_true', Bool.not_eq_false', Bool.not_eq_true, Bool.not_eq_false, Bool.not_true, Bool.not_false, Int.not_lt, Int.not_le, List.cons.injEq, and_true, beq_iff_eq, beq_eq_false_iff_ne] at hc; try (exfalso; first | contradiction | omega)))
    )
  apply LR.call
  · exact rfl
  intro w1 h1
  have hh := g31 2 w1 (by decide)
  skip
  refine CallsTo.mono hh ?_
  clear hh
  rintro v w2 ⟨b, rfl, hn⟩
  have h2 := h1.got hn (Asrt.dep_own _ _)
  refine LR.back h2 ?_
  clear h2 h1
  repeat' (
    first
    | (
      first
      | (apply kp; iterate 2 exact rfl)
      | apply ja | apply jb | apply jg | apply jj | (apply je; exact rfl) | (apply jf; exact rfl) | apply jd | apply jh | apply ji | (apply jc; kernel_rfl) | apply jk | apply jl | apply jm | apply jn | apply jo | (apply jp; exact rfl) | apply jq | apply jr | apply js | apply jt | apply ju | apply jv | apply jw | apply kN | apply kM
      | (apply kf; iterate 2 exact rfl)
      | (apply ko; (· exact rfl); (· repeat (first | exact mH _ _ | apply mT)); iterate 2 exact rfl)
      | (apply ka; (· exact rfl); (· repeat (first | exact mH _ _ | apply mT)); iterate 2 exact rfl)
      | (apply kr; (· exact rfl); (· repeat (first | exact mH _ _ | apply mT)); iterate 3 exact rfl)
      | (apply ks; (· exact rfl); (· repeat (first | exact mH _ _ | apply mT)); iterate 2 exact rfl)
      | (apply kn; iterate 2 exact rfl)
      | (apply ke; iterate 2 exact rfl)
      | (apply kx; iterate 2 exact rfl)
      | (apply kc; iterate 2 exact rfl)
      | (apply kb; iterate 2 exact rfl)
      | (apply kg; iterate 2 exact rfl)
      | (apply kG; iterate 3 exact rfl)
      | (apply kB; (iterate 2 exact rfl); intro _)
      | (apply kA; exact rfl; intro _)
      | (apply kL; (iterate 3 exact rfl); (· repeat (first | exact BS.nil _ | (apply BS.int; exact rfl) | (apply BS.ptr; exact rfl) | (apply BS.slice; exact rfl) | (apply BS.agg; iterate 2 exact rfl))); intro _)
      | (apply kT; (iterate 2 exact rfl); (· repeat (first | exact sH _ _ _ | apply sT)); iterate 2 exact rfl)
      | (apply kS; (iterate 2 exact rfl); (· repeat (first | exact sH _ _ _ | apply sT)); exact rfl)
      | (apply kh; (iterate 2 exact rfl); (first | decide | omega); exact rfl)
      | (apply kl; (iterate 2 exact rfl); (first | decide | omega); exact rfl)
      )
    | (apply kq; (· exact rfl); (· intro w1 h1; exact CallsTo.q (c31 _ _ w1 (by omega)) h1))
    | (apply LR.ev; (· apply Ev.add; (· exact rfl); (· exact rfl); (· first | omega | (dsimp only; omega)); (· first | omega | (dsimp only; omega))); (· exact rfl))
    | (apply kq; (· exact rfl); (· intro w1 h1; exact CallsTo.q (g33 _ w1) h1))
    | ((first | (apply kR; (· exact rfl); (· exact rfl)) | (apply kQ; (· exact rfl))); all_goals (intro hc; try simp only [decide_eq_true_eq, decide_eq_false_iff_not, Bool.not_eq_true', Bool.not_eq_false', Bool.not_eq_true, Bool.not_eq_false, Bool.not_true, Bool.not_false, Int.not_lt, Int.not_le, List.cons.injEq, and_true, beq_iff_eq, beq_eq_false_iff_ne] at hc; try (exfalso; first | contradiction | omega)))
    )
  obtain ⟨p, ep⟩ : ∃ p, p = 1 + bring p0 1000 := ⟨_, rfl⟩
  obtain ⟨q, eq⟩ : ∃ q, q = 1 + bring q0 1000 := ⟨_, rfl⟩
  rw [← ep, ← eq]
  have e0 := pass_at (p := p) (by omega) (by omega)
  apply LR.call
  · exact rfl
  intro w1 h1
  have hh := g32 b (newG 2) (atI p) none 0 w1 (h1.own_at (by (repeat (first | exact mH _ _ | apply mT)))) (by decide) (Rd.nil _ _) nofoot (fun _ => rfl) (by simp [atI]) (by simp [atI, Byt]) (by simp [atI, plcI, i64])
  rw [e0.1, e0.2] at hh
  refine CallsTo.mono hh ?_
  clear hh
  rintro v w2 ⟨a1, c1, rfl, st⟩
  have h2 := h1.two st rfl rfl rfl (by (repeat (first | exact sH _ _ _ | apply sT)))
  refine LR.back h2 ?_
  clear h2 h1
  repeat' (
    first
    | (
      first
      | (apply kp; iterate 2 exact rfl)
      | apply ja | apply jb | apply jg | apply jj | (apply je; exact rfl) | (apply jf; exact rfl) | apply jd | apply jh | apply ji | (apply jc; kernel_rfl) | apply jk | apply jl | apply jm | apply jn | apply jo | (apply jp; exact rfl) | apply jq | apply jr | apply js | apply jt | apply ju | apply jv | apply jw | apply kN | apply kM
      | (apply kf; iterate 2 exact rfl)
      | (apply ko; (· exact rfl); (· repeat (first | exact mH _ _ | apply mT)); iterate 2 exact rfl)
      | (apply ka; (· exact rfl); (· repeat (first | exact mH _ _ | apply mT)); iterate 2 exact rfl)
      | (apply kr; (· exact rfl); (· repeat (first | exact mH _ _ | apply mT)); iterate 3 exact rfl)
      | (apply ks; (· exact rfl); (· repeat (first | exact mH _ _ | apply mT)); iterate 2 exact rfl)
      | (apply kn; iterate 2 exact rfl)
      | (apply ke; iterate 2 exact rfl)
      | (apply kx; iterate 2 exact rfl)
      | (apply kc; iterate 2 exact rfl)
      | (apply kb; iterate 2 exact rfl)
      | (apply kg; iterate 2 exact rfl)
      | (apply kG; iterate 3 exact rfl)
      | (apply kB; (iterate 2 exact rfl); intro _)
      | (apply kA; exact rfl; intro _)
      | (apply kL; (iterate 3 exact rfl); (· repeat (first | exact BS.nil _ | (apply BS.int; exact rfl) | (apply BS.ptr; exact rfl) | (apply BS.slice; exact rfl) | (apply BS.agg; iterate 2 exact rfl))); intro _)
      | (apply kT; (iterate 2 exact rfl); (· repeat (first | exact sH _ _ _ | apply sT)); iterate 2 exact rfl)
      | (apply kS; (iterate 2 exact rfl); (· repeat (first | exact sH _ _ _ | apply sT)); exact rfl)
      | (apply kh; (iterate 2 exact rfl); (first | decide | omega); exact rfl)
      | (apply kl; (iterate 2 exact rfl); (first | decide | omega); exact rfl)
      )
    | (apply kq; (· exact rfl); (· intro w1 h1; exact CallsTo.q (g35 _ w1) h1))
    | ((first | (apply kR; (· exact rfl); (· exact rfl)) | (apply kQ; (· exact rfl))); all_goals (intro hc; try simp only [decide_eq_true_eq, decide_eq_false_iff_not, Bool.not_eq_true', Bool.not_eq_false', Bool.not_eq_true, Bool.not_eq_false, Bool.not_true, Bool.not_false, Int.not_lt, Int.not_le, List.cons.injEq, and_true, beq_iff_eq, beq_eq_false_iff_ne] at hc; try (exfalso; first | contradiction | omega)))
    )
  have e1 := want_at (p := p) (q := q) (by omega) (by omega)
  apply LR.call
  · exact rfl
  intro w1 h1
  have hh := g34 b ⟨2, kK p, zeroK, zeroK⟩ (kK q) w1 (h1.own_at (by (repeat (first | exact mH _ _ | apply mT)))) (by show (2 : Int) ≠ 0; decide)
  rw [e1] at hh
  refine CallsTo.mono hh ?_
  clear hh
  rintro v w2 st
  have h2 := h1.one' st rfl (Asrt.dep_own _ _) (by (repeat (first | exact sH _ _ _ | apply sT)))
  refine LR.back h2 ?_
  clear h2 h1
  repeat' (
    first
    | (
      first
      | (apply kp; iterate 2 exact rfl)
      | apply ja | apply jb | apply jg | apply jj | (apply je; exact rfl) | (apply jf; exact rfl) | apply jd | apply jh | apply ji | (apply jc; kernel_rfl) | apply jk | apply jl | apply jm | apply jn | apply jo | (apply jp; exact rfl) | apply jq | apply jr | apply js | apply jt | apply ju | apply jv | apply jw | apply kN | apply kM
      | (apply kf; iterate 2 exact rfl)
      | (apply ko; (· exact rfl); (· repeat (first | exact mH _ _ | apply mT)); iterate 2 exact rfl)
      | (apply ka; (· exact rfl); (· repeat (first | exact mH _ _ | apply mT)); iterate 2 exact rfl)
      | (apply kr; (· exact rfl); (· repeat (first | exact mH _ _ | apply mT)); iterate 3 exact rfl)
      | (apply ks; (· exact rfl); (· repeat (first | exact mH _ _ | apply mT)); iterate 2 exact rfl)
      | (apply kn; iterate 2 exact rfl)
      | (apply ke; iterate 2 exact rfl)
      | (apply kx; iterate 2 exact rfl)
      | (apply kc; iterate 2 exact rfl)
      | (apply kb; iterate 2 exact rfl)
      | (apply kg; iterate 2 exact rfl)
      | (apply kG; iterate 3 exact rfl)
      | (apply kB; (iterate 2 exact rfl); intro _)
      | (apply kA; exact rfl; intro _)
      | (apply kL; (iterate 3 exact rfl); (· repeat (first | exact BS.nil _ | (apply BS.int; exact rfl) | (apply BS.ptr; exact rfl) | (apply BS.slice; exact rfl) | (apply BS.agg; iterate 2 exact rfl))); intro _)
      | (apply kT; (iterate 2 exact rfl); (· repeat (first | exact sH _ _ _ | apply sT)); iterate 2 exact rfl)
      | (apply kS; (iterate 2 exact rfl); (· repeat (first | exact sH _ _ _ | apply sT)); exact rfl)
      | (apply kh; (iterate 2 exact rfl); (first | decide | omega); exact rfl)
      | (apply kl; (iterate 2 exact rfl); (first | decide | omega); exact rfl)
      )
    | ((first | (apply kR; (· exact rfl); (· exact rfl)) | (apply kQ; (· exact rfl))); all_goals (intro hc; try simp only [decide_eq_true_eq, decide_eq_false_iff_not, Bool.not_eq_true', Bool.not_eq_false', Bool.not_eq_true, Bool.not_eq_false, Bool.not_true, Bool.not_false, Int.not_lt, Int.not_le, List.cons.injEq, and_true, beq_iff_eq, beq_eq_false_iff_ne] at hc; try (exfalso; first | contradiction | omega)))
    )
  apply CW.loop [6, 9, 10, 11, 12, 13, 14, 15, 16, 42, 43, 44, 45, 46, 47, 48, 49, 50, 51, 52, 53, 54, 55, 56, 57, 58, 59, 60, 61, 62, 63, 64, 65, 66, 67, 68, 69, 70, 71, 72, 73, 74, 75, 76, 77, 78, 79, 80, 81, 82, 83, 84, 85, 86, 87, 88, 89, 90, 91, 92, 93, 94, 95, 96, 97, 98, 99, 100, 101, 102, 103, 104, 105, 106, 107, 108, 109, 110, 111, 112, 113, 114, 115, 116, 117, 118, 119, 120, 121, 122, 123] (fun s : Nat × Bool × Bool × Int => s.1 ≤ l.length ∧ 0 ≤ s.2.2.2 ∧ s.2.2.2 ≤ 1200 ∧ s.2.1 = decide (s.2.2.2 < q)) (fun s => [(11, Value.int .i64 (s.1 : Int)), (9, .bool s.2.1), (10, .bool s.2.2.1)])
    (fun s => St w NoF [gO 95 b (Gw q s.2.2.1 s.2.2.2), rdA a (iv l)]) (fun s => l.length - s.1)
  · exact fun w' hw' => ⟨(0, decide (p < q), false, p), ⟨by simp, by show 0 ≤ p; omega, by show p ≤ 1200; omega, rfl⟩, ⟨rfl, rfl, rfl, trivial⟩, hw'.sub (by repeat (first | exact List.Sublist.refl _ | apply List.Sublist.cons_cons | apply List.Sublist.cons))⟩
  rintro ⟨i, owed, asked, x⟩ g ⟨hi, hx, hx2, how⟩
  simp only at hi hx hx2 how ⊢
  by_cases hlt : i < l.length ∧ i < 60
  · obtain ⟨h1l, h60⟩ := hlt
    obtain ⟨ba, oa, rfl⟩ := hr.form (fun e => by have := congrArg List.length e; simp at this; subst this; simp at h1l)
    have hb := bring_bd l[i] 1200 (by omega)
    have ea := ask_w (q := q) (x := x) (b := bring l[i] 1200) (asked := asked) (by omega) (by omega) hb.1 (by omega)
    repeat' (
      first
      | (
        first
        | (apply kp; iterate 2 exact rfl)
        | apply ja | apply jb | apply jg | apply jj | (apply je; exact rfl) | (apply jf; exact rfl) | apply jd | apply jh | apply ji | (apply jc; kernel_rfl) | apply jk | apply jl | apply jm | apply jn | apply jo | (apply jp; exact rfl) | apply jq | apply jr | apply js | apply jt | apply ju | apply jv | apply jw | apply kN | apply kM
        | (apply kf; iterate 2 exact rfl)
        | (apply ko; (· exact rfl); (· repeat (first | exact mH _ _ | apply mT)); iterate 2 exact rfl)
        | (apply ka; (· exact rfl); (· repeat (first | exact mH _ _ | apply mT)); iterate 2 exact rfl)
        | (apply kr; (· exact rfl); (· repeat (first | exact mH _ _ | apply mT)); iterate 3 exact rfl)
        | (apply ks; (· exact rfl); (· repeat (first | exact mH _ _ | apply mT)); iterate 2 exact rfl)
        | (apply kn; iterate 2 exact rfl)
        | (apply ke; iterate 2 exact rfl)
        | (apply kx; iterate 2 exact rfl)
        | (apply kc; iterate 2 exact rfl)
        | (apply kb; iterate 2 exact rfl)
        | (apply kg; iterate 2 exact rfl)
        | (apply kG; iterate 3 exact rfl)
        | (apply kB; (iterate 2 exact rfl); intro _)
        | (apply kA; exact rfl; intro _)
        | (apply kL; (iterate 3 exact rfl); (· repeat (first | exact BS.nil _ | (apply BS.int; exact rfl) | (apply BS.ptr; exact rfl) | (apply BS.slice; exact rfl) | (apply BS.agg; iterate 2 exact rfl))); intro _)
        | (apply kT; (iterate 2 exact rfl); (· repeat (first | exact sH _ _ _ | apply sT)); iterate 2 exact rfl)
        | (apply kS; (iterate 2 exact rfl); (· repeat (first | exact sH _ _ _ | apply sT)); exact rfl)
        | (apply kh; (iterate 2 exact rfl); (first | decide | omega); exact rfl)
        | (apply kl; (iterate 2 exact rfl); (first | decide | omega); exact rfl)
        )
      | (apply LR.ev; (· apply Ev.indexAddr; (· exact rfl); (· exact rfl); (· first | omega | (dsimp only; omega)); (· first | omega | (dsimp only; omega))); (· exact rfl))
      | (apply LR.ev; (· apply Ev.load_rd; (· exact rfl); (· repeat (first | exact mH _ _ | apply mT)); (· exact iv_at (i := i) (by simp) (by omega))); (· exact rfl))
      | (apply kq; (· exact rfl); (· intro w1 h1; exact CallsTo.q (c31 _ _ w1 (by omega)) h1))
      | (apply kq; (· exact rfl); (· intro w1 h1; exact CallsTo.q (g35 _ w1) h1))
      | ((first | (apply kR; (· exact rfl); (· exact rfl)) | (apply kQ; (· exact rfl))); all_goals (intro hc; try simp only [decide_eq_true_eq, decide_eq_false_iff_not, Bool.not_eq_true', Bool.not_eq_false', Bool.not_eq_true, Bool.not_eq_false, Bool.not_true, Bool.not_false, Int.not_lt, Int.not_le, List.cons.injEq, and_true, beq_iff_eq, beq_eq_false_iff_ne] at hc; try (exfalso; first | contradiction | omega)))
      )
    generalize eB : bring l[i] 1200 = B at *
    have hi1 : i + 1 ≤ l.length := by omega
    have hdec : l.length - (i + 1) < l.length - i := by omega
    have em := fun k => mark_w (q := q) (x := x) (b := B) (asked := k) (by omega) (by omega) hb.1 (by omega)
    have es := askS_w (q := q) (x := x) (b := B) (asked := asked) (by omega) (by omega) hb.1 (by omega)
    have et := fun k => markS_w (q := q) (x := x) (b := B) (asked := k) (by omega) (by omega) hb.1 (by omega)
    by_cases hox : x < q <;> by_cases hbq : B < q <;> cases asked
    all_goals (
      simp only [hox, hbq, decide_true, decide_false, Bool.and_true, Bool.true_and, Bool.and_false, Bool.false_and, Bool.not_true, Bool.not_false, Bool.or_false, Bool.or_true, Bool.false_or, Bool.true_or, if_true, if_false, Bool.false_eq_true] at ea es em et how
      subst how
      apply LR.call
      · exact rfl
      intro w1 h1
      have hh := g36 b (Gw q _ x) (kK B) w1 (h1.own_at (by (repeat (first | exact mH _ _ | apply mT))))
      rw [ea, es.1, es.2] at hh
      refine CallsTo.mono hh ?_
      clear hh
      rintro v w2 ⟨rfl, st⟩
      have h2 := h1.one' st rfl (Asrt.dep_own _ _) (by (repeat (first | exact sH _ _ _ | apply sT)))
      refine LR.back h2 ?_
      clear h2 h1
      repeat' (
        first
        | (apply CW.reg_heldC)
        | (
          first
          | (apply kp; iterate 2 exact rfl)
          | apply ja | apply jb | apply jg | apply jj | (apply je; exact rfl) | (apply jf; exact rfl) | apply jd | apply jh | apply ji | (apply jc; kernel_rfl) | apply jk | apply jl | apply jm | apply jn | apply jo | (apply jp; exact rfl) | apply jq | apply jr | apply js | apply jt | apply ju | apply jv | apply jw | apply kN | apply kM
          | (apply kf; iterate 2 exact rfl)
          | (apply ko; (· exact rfl); (· repeat (first | exact mH _ _ | apply mT)); iterate 2 exact rfl)
          | (apply ka; (· exact rfl); (· repeat (first | exact mH _ _ | apply mT)); iterate 2 exact rfl)
          | (apply kr; (· exact rfl); (· repeat (first | exact mH _ _ | apply mT)); iterate 3 exact rfl)
          | (apply ks; (· exact rfl); (· repeat (first | exact mH _ _ | apply mT)); iterate 2 exact rfl)
          | (apply kn; iterate 2 exact rfl)
          | (apply ke; iterate 2 exact rfl)
          | (apply kx; iterate 2 exact rfl)
          | (apply kc; iterate 2 exact rfl)
          | (apply kb; iterate 2 exact rfl)
          | (apply kg; iterate 2 exact rfl)
          | (apply kG; iterate 3 exact rfl)
          | (apply kB; (iterate 2 exact rfl); intro _)
          | (apply kA; exact rfl; intro _)
          | (apply kL; (iterate 3 exact rfl); (· repeat (first | exact BS.nil _ | (apply BS.int; exact rfl) | (apply BS.ptr; exact rfl) | (apply BS.slice; exact rfl) | (apply BS.agg; iterate 2 exact rfl))); intro _)
          | (apply kT; (iterate 2 exact rfl); (· repeat (first | exact sH _ _ _ | apply sT)); iterate 2 exact rfl)
          | (apply kS; (iterate 2 exact rfl); (· repeat (first | exact sH _ _ _ | apply sT)); exact rfl)
          | (apply kh; (iterate 2 exact rfl); (first | decide | omega); exact rfl)
          | (apply kl; (iterate 2 exact rfl); (first | decide | omega); exact rfl)
          )
        | ((first | (apply kR; (· exact rfl); (· exact rfl)) | (apply kQ; (· exact rfl))); all_goals (intro hc; try simp only [decide_eq_true_eq, decide_eq_false_iff_not, Bool.not_eq_true', Bool.not_eq_false', Bool.not_eq_true, Bool.not_eq_false, Bool.not_true, Bool.not_false, Int.not_lt, Int.not_le, List.cons.injEq, and_true, beq_iff_eq, beq_eq_false_iff_ne] at hc; try (exfalso; first | contradiction | omega)))
        )
      all_goals (
        apply DW.quiet [0, 1, 2, 3, 4, 5, 6, 7, 8, 9, 10, 11, 12, 13, 14, 15, 16]
        · decide +kernel
        · first | exact fun _ h => h | exact fun _ h => St.sub h (by repeat (first | exact List.Sublist.refl _ | apply List.Sublist.cons_cons | apply List.Sublist.cons))
        repeat' (
          first
          | (apply yp; iterate 3 exact rfl)
          | (apply QL.ev; exact rfl
             · first
               | (apply Ev.load_own; (· exact rfl); (· repeat (first | exact mH _ _ | apply mT)); exact rfl)
               | (apply Ev.load_agg; (· exact rfl); (· repeat (first | exact mH _ _ | apply mT)); exact rfl)
               | (apply Ev.load_rdq; (· exact rfl); (· repeat (first | exact mH _ _ | apply mT)); iterate 2 exact rfl)
               | (apply Ev.load_ardq; (· exact rfl); (· repeat (first | exact mH _ _ | apply mT)); exact rfl)
               | (apply Ev.fieldAddr; exact rfl)
               | (apply Ev.len; exact rfl)
               | (apply EqOf.eq; exact rfl)
               | (apply EqOf.ne; exact rfl)
               | (apply Ev.conv; exact rfl)
               | (apply Ev.buildN; exact rfl)
               | (apply Ev.shr; (iterate 2 exact rfl); first | decide | omega)
               | (apply Ev.shl; (iterate 2 exact rfl); first | decide | omega)
             · exact rfl)
          | (apply yq; iterate 5 exact rfl)
          | (apply QL.evg; iterate 3 exact rfl
             · first
               | (apply Ev.load_own; (· exact rfl); (· repeat (first | exact mH _ _ | apply mT)); exact rfl)
               | (apply Ev.load_agg; (· exact rfl); (· repeat (first | exact mH _ _ | apply mT)); exact rfl)
               | (apply Ev.load_rdq; (· exact rfl); (· repeat (first | exact mH _ _ | apply mT)); iterate 2 exact rfl)
               | (apply Ev.load_ardq; (· exact rfl); (· repeat (first | exact mH _ _ | apply mT)); exact rfl)
               | (apply Ev.fieldAddr; exact rfl)
               | (apply Ev.len; exact rfl)
               | (apply EqOf.eq; exact rfl)
               | (apply EqOf.ne; exact rfl)
               | (apply Ev.conv; exact rfl)
               | (apply Ev.buildN; exact rfl)
               | (apply Ev.shr; (iterate 2 exact rfl); first | decide | omega)
               | (apply Ev.shl; (iterate 2 exact rfl); first | decide | omega)
             · exact rfl)
          | (apply yn; iterate 4 exact rfl)
          | ((apply QL.split; (· exact rfl); (· exact rfl); (· exact rfl)); all_goals (intro hc; try simp only [decide_eq_true_eq, decide_eq_false_iff_not, Bool.not_eq_true', Bool.not_eq_false', Bool.not_eq_true, Bool.not_eq_false, Bool.not_true, Bool.not_false, Int.not_lt, Int.not_le, List.cons.injEq, and_true, beq_iff_eq, beq_eq_false_iff_ne] at hc; try (exfalso; first | contradiction | omega)))
          | apply QL.nil
          )
        all_goals (show DW _ _ _ _ _ _ _ _))
      all_goals (
        apply DW.loud 17
        · exact rfl
        · decide +kernel
        repeat' (
          first
          | (apply kg; iterate 2 exact rfl)
          | (apply kG; iterate 3 exact rfl)
          | apply kM
          | (
            first
            | (apply kp; iterate 2 exact rfl)
            | (apply ko; (· exact rfl); (· repeat (first | exact mH _ _ | apply mT)); iterate 2 exact rfl)
            | (apply ka; (· exact rfl); (· repeat (first | exact mH _ _ | apply mT)); iterate 2 exact rfl)
            | (apply kL; (iterate 3 exact rfl); (· repeat (first | exact BS.nil _ | (apply BS.int; exact rfl) | (apply BS.ptr; exact rfl) | (apply BS.slice; exact rfl) | (apply BS.agg; iterate 2 exact rfl))); intro _)
            | (apply kT; (iterate 2 exact rfl); (· repeat (first | exact sH _ _ _ | apply sT)); iterate 2 exact rfl)
            | (apply kS; (iterate 2 exact rfl); (· repeat (first | exact sH _ _ _ | apply sT)); exact rfl)
            | (apply kB; (iterate 2 exact rfl); intro _)
            | (apply kA; exact rfl; intro _)
            )
          | (apply kq; (· exact rfl); (· intro w1 h1; exact CallsTo.q (g35 _ w1) h1))
          )
        all_goals (refine At.stage_same (fun _ h => St.sub h (by repeat (first | exact List.Sublist.refl _ | apply List.Sublist.cons_cons | apply List.Sublist.cons))) ?_))
      all_goals (
        apply DW.quiet [18, 19, 20]
        · decide +kernel
        · first | exact fun _ h => h | exact fun _ h => St.sub h (by repeat (first | exact List.Sublist.refl _ | apply List.Sublist.cons_cons | apply List.Sublist.cons))
        repeat' (
          first
          | (apply yp; iterate 3 exact rfl)
          | (apply QL.ev; exact rfl
             · first
               | (apply Ev.load_own; (· exact rfl); (· repeat (first | exact mH _ _ | apply mT)); exact rfl)
               | (apply Ev.load_agg; (· exact rfl); (· repeat (first | exact mH _ _ | apply mT)); exact rfl)
               | (apply Ev.load_rdq; (· exact rfl); (· repeat (first | exact mH _ _ | apply mT)); iterate 2 exact rfl)
               | (apply Ev.load_ardq; (· exact rfl); (· repeat (first | exact mH _ _ | apply mT)); exact rfl)
               | (apply Ev.fieldAddr; exact rfl)
               | (apply Ev.len; exact rfl)
               | (apply EqOf.eq; exact rfl)
               | (apply EqOf.ne; exact rfl)
               | (apply Ev.conv; exact rfl)
               | (apply Ev.buildN; exact rfl)
               | (apply Ev.shr; (iterate 2 exact rfl); first | decide | omega)
               | (apply Ev.shl; (iterate 2 exact rfl); first | decide | omega)
             · exact rfl)
          | (apply yq; iterate 5 exact rfl)
          | (apply QL.evg; iterate 3 exact rfl
             · first
               | (apply Ev.load_own; (· exact rfl); (· repeat (first | exact mH _ _ | apply mT)); exact rfl)
               | (apply Ev.load_agg; (· exact rfl); (· repeat (first | exact mH _ _ | apply mT)); exact rfl)
               | (apply Ev.load_rdq; (· exact rfl); (· repeat (first | exact mH _ _ | apply mT)); iterate 2 exact rfl)
               | (apply Ev.load_ardq; (· exact rfl); (· repeat (first | exact mH _ _ | apply mT)); exact rfl)
               | (apply Ev.fieldAddr; exact rfl)
               | (apply Ev.len; exact rfl)
               | (apply EqOf.eq; exact rfl)
               | (apply EqOf.ne; exact rfl)
               | (apply Ev.conv; exact rfl)
               | (apply Ev.buildN; exact rfl)
               | (apply Ev.shr; (iterate 2 exact rfl); first | decide | omega)
               | (apply Ev.shl; (iterate 2 exact rfl); first | decide | omega)
             · exact rfl)
          | (apply yn; iterate 4 exact rfl)
          | ((apply QL.split; (· exact rfl); (· exact rfl); (· exact rfl)); all_goals (intro hc; try simp only [decide_eq_true_eq, decide_eq_false_iff_not, Bool.not_eq_true', Bool.not_eq_false', Bool.not_eq_true, Bool.not_eq_false, Bool.not_true, Bool.not_false, Int.not_lt, Int.not_le, List.cons.injEq, and_true, beq_iff_eq, beq_eq_false_iff_ne] at hc; try (exfalso; first | contradiction | omega)))
          | apply QL.nil
          )
        all_goals (show DW _ _ _ _ _ _ _ _))
      all_goals (first | (apply DW.done_thn; (· decide +kernel)) | (apply DW.done; (· decide +kernel)))
      repeat' (
        first
        | (
          first
          | (apply kp; iterate 2 exact rfl)
          | apply ja | apply jb | apply jg | apply jj | (apply je; exact rfl) | (apply jf; exact rfl) | apply jd | apply jh | apply ji | (apply jc; kernel_rfl) | apply jk | apply jl | apply jm | apply jn | apply jo | (apply jp; exact rfl) | apply jq | apply jr | apply js | apply jt | apply ju | apply jv | apply jw | apply kN | apply kM
          | (apply kf; iterate 2 exact rfl)
          | (apply ko; (· exact rfl); (· repeat (first | exact mH _ _ | apply mT)); iterate 2 exact rfl)
          | (apply ka; (· exact rfl); (· repeat (first | exact mH _ _ | apply mT)); iterate 2 exact rfl)
          | (apply kr; (· exact rfl); (· repeat (first | exact mH _ _ | apply mT)); iterate 3 exact rfl)
          | (apply ks; (· exact rfl); (· repeat (first | exact mH _ _ | apply mT)); iterate 2 exact rfl)
          | (apply kn; iterate 2 exact rfl)
          | (apply ke; iterate 2 exact rfl)
          | (apply kx; iterate 2 exact rfl)
          | (apply kc; iterate 2 exact rfl)
          | (apply kb; iterate 2 exact rfl)
          | (apply kg; iterate 2 exact rfl)
          | (apply kG; iterate 3 exact rfl)
          | (apply kB; (iterate 2 exact rfl); intro _)
          | (apply kA; exact rfl; intro _)
          | (apply kL; (iterate 3 exact rfl); (· repeat (first | exact BS.nil _ | (apply BS.int; exact rfl) | (apply BS.ptr; exact rfl) | (apply BS.slice; exact rfl) | (apply BS.agg; iterate 2 exact rfl))); intro _)
          | (apply kT; (iterate 2 exact rfl); (· repeat (first | exact sH _ _ _ | apply sT)); iterate 2 exact rfl)
          | (apply kS; (iterate 2 exact rfl); (· repeat (first | exact sH _ _ _ | apply sT)); exact rfl)
          | (apply kh; (iterate 2 exact rfl); (first | decide | omega); exact rfl)
          | (apply kl; (iterate 2 exact rfl); (first | decide | omega); exact rfl)
          )
        | (apply kq; (· exact rfl); (· intro w1 h1; exact CallsTo.q (g35 _ w1) h1))
        | ((first | (apply kR; (· exact rfl); (· exact rfl)) | (apply kQ; (· exact rfl))); all_goals (intro hc; try simp only [decide_eq_true_eq, decide_eq_false_iff_not, Bool.not_eq_true', Bool.not_eq_false', Bool.not_eq_true, Bool.not_eq_false, Bool.not_true, Bool.not_false, Int.not_lt, Int.not_le, List.cons.injEq, and_true, beq_iff_eq, beq_eq_false_iff_ne] at hc; try (exfalso; first | contradiction | omega)))
        )
      all_goals (try (exfalso; revert hc; first | (simp [hbq, kK]; done) | (simp; omega)))
      apply LR.call
      · exact rfl
      intro w1 h1
      have hh := g37 b (Gw q _ x) (kK B) w1 (h1.own_at (by (repeat (first | exact mH _ _ | apply mT))))
      rw [em, (et _).1, (et _).2] at hh
      refine CallsTo.mono hh ?_
      clear hh
      rintro v w2 ⟨rfl, st⟩
      have h2 := h1.one' st rfl (Asrt.dep_own _ _) (by (repeat (first | exact sH _ _ _ | apply sT)))
      refine LR.back h2 ?_
      clear h2 h1
      repeat' (
        first
        | (apply CW.reg_heldC)
        | (
          first
          | (apply kp; iterate 2 exact rfl)
          | apply ja | apply jb | apply jg | apply jj | (apply je; exact rfl) | (apply jf; exact rfl) | apply jd | apply jh | apply ji | (apply jc; kernel_rfl) | apply jk | apply jl | apply jm | apply jn | apply jo | (apply jp; exact rfl) | apply jq | apply jr | apply js | apply jt | apply ju | apply jv | apply jw | apply kN | apply kM
          | (apply kf; iterate 2 exact rfl)
          | (apply ko; (· exact rfl); (· repeat (first | exact mH _ _ | apply mT)); iterate 2 exact rfl)
          | (apply ka; (· exact rfl); (· repeat (first | exact mH _ _ | apply mT)); iterate 2 exact rfl)
          | (apply kr; (· exact rfl); (· repeat (first | exact mH _ _ | apply mT)); iterate 3 exact rfl)
          | (apply ks; (· exact rfl); (· repeat (first | exact mH _ _ | apply mT)); iterate 2 exact rfl)
          | (apply kn; iterate 2 exact rfl)
          | (apply ke; iterate 2 exact rfl)
          | (apply kx; iterate 2 exact rfl)
          | (apply kc; iterate 2 exact rfl)
          | (apply kb; iterate 2 exact rfl)
          | (apply kg; iterate 2 exact rfl)
          | (apply kG; iterate 3 exact rfl)
          | (apply kB; (iterate 2 exact rfl); intro _)
          | (apply kA; exact rfl; intro _)
          | (apply kL; (iterate 3 exact rfl); (· repeat (first | exact BS.nil _ | (apply BS.int; exact rfl) | (apply BS.ptr; exact rfl) | (apply BS.slice; exact rfl) | (apply BS.agg; iterate 2 exact rfl))); intro _)
          | (apply kT; (iterate 2 exact rfl); (· repeat (first | exact sH _ _ _ | apply sT)); iterate 2 exact rfl)
          | (apply kS; (iterate 2 exact rfl); (· repeat (first | exact sH _ _ _ | apply sT)); exact rfl)
          | (apply kh; (iterate 2 exact rfl); (first | decide | omega); exact rfl)
          | (apply kl; (iterate 2 exact rfl); (first | decide | omega); exact rfl)
          )
        | ((first | (apply kR; (· exact rfl); (· exact rfl)) | (apply kQ; (· exact rfl))); all_goals (intro hc; try simp only [decide_eq_true_eq, decide_eq_false_iff_not, Bool.not_eq_true', Bool.not_eq_false', Bool.not_eq_true, Bool.not_eq_false, Bool.not_true, Bool.not_false, Int.not_lt, Int.not_le, List.cons.injEq, and_true, beq_iff_eq, beq_eq_false_iff_ne] at hc; try (exfalso; first | contradiction | omega)))
        )
      all_goals (
        apply DW.quiet [0, 1, 2, 3, 4, 5, 6, 7, 8, 9, 10, 11, 12, 13]
        · decide +kernel
        · first | exact fun _ h => h | exact fun _ h => St.sub h (by repeat (first | exact List.Sublist.refl _ | apply List.Sublist.cons_cons | apply List.Sublist.cons))
        repeat' (
          first
          | (apply yp; iterate 3 exact rfl)
          | (apply QL.ev; exact rfl
             · first
               | (apply Ev.load_own; (· exact rfl); (· repeat (first | exact mH _ _ | apply mT)); exact rfl)
               | (apply Ev.load_agg; (· exact rfl); (· repeat (first | exact mH _ _ | apply mT)); exact rfl)
               | (apply Ev.load_rdq; (· exact rfl); (· repeat (first | exact mH _ _ | apply mT)); iterate 2 exact rfl)
               | (apply Ev.load_ardq; (· exact rfl); (· repeat (first | exact mH _ _ | apply mT)); exact rfl)
               | (apply Ev.fieldAddr; exact rfl)
               | (apply Ev.len; exact rfl)
               | (apply EqOf.eq; exact rfl)
               | (apply EqOf.ne; exact rfl)
               | (apply Ev.conv; exact rfl)
               | (apply Ev.buildN; exact rfl)
               | (apply Ev.shr; (iterate 2 exact rfl); first | decide | omega)
               | (apply Ev.shl; (iterate 2 exact rfl); first | decide | omega)
             · exact rfl)
          | (apply yq; iterate 5 exact rfl)
          | (apply QL.evg; iterate 3 exact rfl
             · first
               | (apply Ev.load_own; (· exact rfl); (· repeat (first | exact mH _ _ | apply mT)); exact rfl)
               | (apply Ev.load_agg; (· exact rfl); (· repeat (first | exact mH _ _ | apply mT)); exact rfl)
               | (apply Ev.load_rdq; (· exact rfl); (· repeat (first | exact mH _ _ | apply mT)); iterate 2 exact rfl)
               | (apply Ev.load_ardq; (· exact rfl); (· repeat (first | exact mH _ _ | apply mT)); exact rfl)
               | (apply Ev.fieldAddr; exact rfl)
               | (apply Ev.len; exact rfl)
               | (apply EqOf.eq; exact rfl)
               | (apply EqOf.ne; exact rfl)
               | (apply Ev.conv; exact rfl)
               | (apply Ev.buildN; exact rfl)
               | (apply Ev.shr; (iterate 2 exact rfl); first | decide | omega)
               | (apply Ev.shl; (iterate 2 exact rfl); first | decide | omega)
             · exact rfl)
          | (apply yn; iterate 4 exact rfl)
          | ((apply QL.split; (· exact rfl); (· exact rfl); (· exact rfl)); all_goals (intro hc; try simp only [decide_eq_true_eq, decide_eq_false_iff_not, Bool.not_eq_true', Bool.not_eq_false', Bool.not_eq_true, Bool.not_eq_false, Bool.not_true, Bool.not_false, Int.not_lt, Int.not_le, List.cons.injEq, and_true, beq_iff_eq, beq_eq_false_iff_ne] at hc; try (exfalso; first | contradiction | omega)))
          | apply QL.nil
          )
        all_goals (show DW _ _ _ _ _ _ _ _))
      all_goals (
        apply DW.loud 14
        · exact rfl
        · decide +kernel
        repeat' (
          first
          | (apply kg; iterate 2 exact rfl)
          | (apply kG; iterate 3 exact rfl)
          | apply kM
          | (
            first
            | (apply kp; iterate 2 exact rfl)
            | (apply ko; (· exact rfl); (· repeat (first | exact mH _ _ | apply mT)); iterate 2 exact rfl)
            | (apply ka; (· exact rfl); (· repeat (first | exact mH _ _ | apply mT)); iterate 2 exact rfl)
            | (apply kL; (iterate 3 exact rfl); (· repeat (first | exact BS.nil _ | (apply BS.int; exact rfl) | (apply BS.ptr; exact rfl) | (apply BS.slice; exact rfl) | (apply BS.agg; iterate 2 exact rfl))); intro _)
            | (apply kT; (iterate 2 exact rfl); (· repeat (first | exact sH _ _ _ | apply sT)); iterate 2 exact rfl)
            | (apply kS; (iterate 2 exact rfl); (· repeat (first | exact sH _ _ _ | apply sT)); exact rfl)
            | (apply kB; (iterate 2 exact rfl); intro _)
            | (apply kA; exact rfl; intro _)
            )
          | (apply kq; (· exact rfl); (· intro w1 h1; exact CallsTo.q (g35 _ w1) h1))
          )
        all_goals (refine At.stage_same (fun _ h => St.sub h (by repeat (first | exact List.Sublist.refl _ | apply List.Sublist.cons_cons | apply List.Sublist.cons))) ?_))
      all_goals (
        apply DW.quiet [15, 16, 17]
        · decide +kernel
        · first | exact fun _ h => h | exact fun _ h => St.sub h (by repeat (first | exact List.Sublist.refl _ | apply List.Sublist.cons_cons | apply List.Sublist.cons))
        repeat' (
          first
          | (apply yp; iterate 3 exact rfl)
          | (apply QL.ev; exact rfl
             · first
               | (apply Ev.load_own; (· exact rfl); (· repeat (first | exact mH _ _ | apply mT)); exact rfl)
               | (apply Ev.load_agg; (· exact rfl); (· repeat (first | exact mH _ _ | apply mT)); exact rfl)
               | (apply Ev.load_rdq; (· exact rfl); (· repeat (first | exact mH _ _ | apply mT)); iterate 2 exact rfl)
               | (apply Ev.load_ardq; (· exact rfl); (· repeat (first | exact mH _ _ | apply mT)); exact rfl)
               | (apply Ev.fieldAddr; exact rfl)
               | (apply Ev.len; exact rfl)
               | (apply EqOf.eq; exact rfl)
               | (apply EqOf.ne; exact rfl)
               | (apply Ev.conv; exact rfl)
               | (apply Ev.buildN; exact rfl)
               | (apply Ev.shr; (iterate 2 exact rfl); first | decide | omega)
               | (apply Ev.shl; (iterate 2 exact rfl); first | decide | omega)
             · exact rfl)
          | (apply yq; iterate 5 exact rfl)
          | (apply QL.evg; iterate 3 exact rfl
             · first
               | (apply Ev.load_own; (· exact rfl); (· repeat (first | exact mH _ _ | apply mT)); exact rfl)
               | (apply Ev.load_agg; (· exact rfl); (· repeat (first | exact mH _ _ | apply mT)); exact rfl)
               | (apply Ev.load_rdq; (· exact rfl); (· repeat (first | exact mH _ _ | apply mT)); iterate 2 exact rfl)
               | (apply Ev.load_ardq; (· exact rfl); (· repeat (first | exact mH _ _ | apply mT)); exact rfl)
               | (apply Ev.fieldAddr; exact rfl)
               | (apply Ev.len; exact rfl)
               | (apply EqOf.eq; exact rfl)
               | (apply EqOf.ne; exact rfl)
               | (apply Ev.conv; exact rfl)
               | (apply Ev.buildN; exact rfl)
               | (apply Ev.shr; (iterate 2 exact rfl); first | decide | omega)
               | (apply Ev.shl; (iterate 2 exact rfl); first | decide | omega)
             · exact rfl)
          | (apply yn; iterate 4 exact rfl)
          | ((apply QL.split; (· exact rfl); (· exact rfl); (· exact rfl)); all_goals (intro hc; try simp only [decide_eq_true_eq, decide_eq_false_iff_not, Bool.not_eq_true', Bool.not_eq_false', Bool.not_eq_true, Bool.not_eq_false, Bool.not_true, Bool.not_false, Int.not_lt, Int.not_le, List.cons.injEq, and_true, beq_iff_eq, beq_eq_false_iff_ne] at hc; try (exfalso; first | contradiction | omega)))
          | apply QL.nil
          )
        all_goals (show DW _ _ _ _ _ _ _ _))
      all_goals (first | (apply DW.done_thn; (· decide +kernel)) | (apply DW.done; (· decide +kernel)))
      repeat' (
        first
        | (
          first
          | (apply kp; iterate 2 exact rfl)
          | apply ja | apply jb | apply jg | apply jj | (apply je; exact rfl) | (apply jf; exact rfl) | apply jd | apply jh | apply ji | (apply jc; kernel_rfl) | apply jk | apply jl | apply jm | apply jn | apply jo | (apply jp; exact rfl) | apply jq | apply jr | apply js | apply jt | apply ju | apply jv | apply jw | apply kN | apply kM
          | (apply kf; iterate 2 exact rfl)
          | (apply ko; (· exact rfl); (· repeat (first | exact mH _ _ | apply mT)); iterate 2 exact rfl)
          | (apply ka; (· exact rfl); (· repeat (first | exact mH _ _ | apply mT)); iterate 2 exact rfl)
          | (apply kr; (· exact rfl); (· repeat (first | exact mH _ _ | apply mT)); iterate 3 exact rfl)
          | (apply ks; (· exact rfl); (· repeat (first | exact mH _ _ | apply mT)); iterate 2 exact rfl)
          | (apply kn; iterate 2 exact rfl)
          | (apply ke; iterate 2 exact rfl)
          | (apply kx; iterate 2 exact rfl)
          | (apply kc; iterate 2 exact rfl)
          | (apply kb; iterate 2 exact rfl)
          | (apply kg; iterate 2 exact rfl)
          | (apply kG; iterate 3 exact rfl)
          | (apply kB; (iterate 2 exact rfl); intro _)
          | (apply kA; exact rfl; intro _)
          | (apply kL; (iterate 3 exact rfl); (· repeat (first | exact BS.nil _ | (apply BS.int; exact rfl) | (apply BS.ptr; exact rfl) | (apply BS.slice; exact rfl) | (apply BS.agg; iterate 2 exact rfl))); intro _)
          | (apply kT; (iterate 2 exact rfl); (· repeat (first | exact sH _ _ _ | apply sT)); iterate 2 exact rfl)
          | (apply kS; (iterate 2 exact rfl); (· repeat (first | exact sH _ _ _ | apply sT)); exact rfl)
          | (apply kh; (iterate 2 exact rfl); (first | decide | omega); exact rfl)
          | (apply kl; (iterate 2 exact rfl); (first | decide | omega); exact rfl)
          )
        | (apply kq; (· exact rfl); (· intro w1 h1; exact CallsTo.q (g35 _ w1) h1))
        | (apply LR.ev; (· apply Ev.rem; (· exact rfl); (· exact rfl); (· first | decide | omega)); (· exact rfl))
        | (apply LR.ev; (· apply Ev.add; (· exact rfl); (· exact rfl); (· first | omega | (dsimp only; omega)); (· first | omega | (dsimp only; omega))); (· exact rfl))
        | ((first | (apply kR; (· exact rfl); (· exact rfl)) | (apply kQ; (· exact rfl))); all_goals (intro hc; try simp only [decide_eq_true_eq, decide_eq_false_iff_not, Bool.not_eq_true', Bool.not_eq_false', Bool.not_eq_true, Bool.not_eq_false, Bool.not_true, Bool.not_false, Int.not_lt, Int.not_le, List.cons.injEq, and_true, beq_iff_eq, beq_eq_false_iff_ne] at hc; try (exfalso; first | contradiction | omega)))
        )
      all_goals (try (exfalso; revert hc; first | (simp [hbq, kK]; done) | (simp; omega)))
      all_goals (
        try (
          apply LR.call
          · exact rfl
          intro w1 h1
          have hh := g38w b q _ _ w1 (h1.own_at (by (repeat (first | exact mH _ _ | apply mT))))
          skip
          refine CallsTo.mono hh ?_
          clear hh
          rintro v w2 st
          have h2 := h1.one' st rfl (Asrt.dep_own _ _) (by (repeat (first | exact sH _ _ _ | apply sT)))
          refine LR.back h2 ?_
          clear h2 h1
          repeat' (
            first
            | (
              first
              | (apply kp; iterate 2 exact rfl)
              | apply ja | apply jb | apply jg | apply jj | (apply je; exact rfl) | (apply jf; exact rfl) | apply jd | apply jh | apply ji | (apply jc; kernel_rfl) | apply jk | apply jl | apply jm | apply jn | apply jo | (apply jp; exact rfl) | apply jq | apply jr | apply js | apply jt | apply ju | apply jv | apply jw | apply kN | apply kM
              | (apply kf; iterate 2 exact rfl)
              | (apply ko; (· exact rfl); (· repeat (first | exact mH _ _ | apply mT)); iterate 2 exact rfl)
              | (apply ka; (· exact rfl); (· repeat (first | exact mH _ _ | apply mT)); iterate 2 exact rfl)
              | (apply kr; (· exact rfl); (· repeat (first | exact mH _ _ | apply mT)); iterate 3 exact rfl)
              | (apply ks; (· exact rfl); (· repeat (first | exact mH _ _ | apply mT)); iterate 2 exact rfl)
              | (apply kn; iterate 2 exact rfl)
              | (apply ke; iterate 2 exact rfl)
              | (apply kx; iterate 2 exact rfl)
              | (apply kc; iterate 2 exact rfl)
              | (apply kb; iterate 2 exact rfl)
              | (apply kg; iterate 2 exact rfl)
              | (apply kG; iterate 3 exact rfl)
              | (apply kB; (iterate 2 exact rfl); intro _)
              | (apply kA; exact rfl; intro _)
              | (apply kL; (iterate 3 exact rfl); (· repeat (first | exact BS.nil _ | (apply BS.int; exact rfl) | (apply BS.ptr; exact rfl) | (apply BS.slice; exact rfl) | (apply BS.agg; iterate 2 exact rfl))); intro _)
              | (apply kT; (iterate 2 exact rfl); (· repeat (first | exact sH _ _ _ | apply sT)); iterate 2 exact rfl)
              | (apply kS; (iterate 2 exact rfl); (· repeat (first | exact sH _ _ _ | apply sT)); exact rfl)
              | (apply kh; (iterate 2 exact rfl); (first | decide | omega); exact rfl)
              | (apply kl; (iterate 2 exact rfl); (first | decide | omega); exact rfl)
              )
            | (apply LR.ev; (· apply Ev.add; (· exact rfl); (· exact rfl); (· first | omega | (dsimp only; omega)); (· first | omega | (dsimp only; omega))); (· exact rfl))
            | ((first | (apply kR; (· exact rfl); (· exact rfl)) | (apply kQ; (· exact rfl))); all_goals (intro hc; try simp only [decide_eq_true_eq, decide_eq_false_iff_not, Bool.not_eq_true', Bool.not_eq_false', Bool.not_eq_true, Bool.not_eq_false, Bool.not_true, Bool.not_false, Int.not_lt, Int.not_le, List.cons.injEq, and_true, beq_iff_eq, beq_eq_false_iff_ne] at hc; try (exfalso; first | contradiction | omega)))
            )
          )
        first
        | (refine At.again (i + 1, true, true, x) ?_ ?_ ?_ ?_ ?_
           rotate_left 2
           · exact ⟨rfl, rfl, rfl, trivial⟩
           · intro w' hw'
             refine hw'.sub ?_
             repeat (first | exact List.Sublist.refl _ | apply List.Sublist.cons_cons | apply List.Sublist.cons)
             done
           · exact hdec
           · refine ⟨hi1, ?_, ?_, ?_⟩
             · show 0 ≤ x
               omega
             · show x ≤ 1200
               omega
             · simp only [hox, hbq, decide_true, decide_false]
               done
           · (repeat (first | exact Out.refl _ _ | exact Out.mix | (apply Out.upd; (· exact rfl)) | (apply Out.updL; (· exact rfl)) | (apply Out.mixs; (· exact rfl))))
          )
        | (refine At.again (i + 1, true, true, B) ?_ ?_ ?_ ?_ ?_
           rotate_left 2
           · exact ⟨rfl, rfl, rfl, trivial⟩
           · intro w' hw'
             refine hw'.sub ?_
             repeat (first | exact List.Sublist.refl _ | apply List.Sublist.cons_cons | apply List.Sublist.cons)
             done
           · exact hdec
           · refine ⟨hi1, ?_, ?_, ?_⟩
             · show 0 ≤ B
               omega
             · show B ≤ 1200
               omega
             · simp only [hox, hbq, decide_true, decide_false]
               done
           · (repeat (first | exact Out.refl _ _ | exact Out.mix | (apply Out.upd; (· exact rfl)) | (apply Out.updL; (· exact rfl)) | (apply Out.mixs; (· exact rfl))))
          )
        | (refine At.again (i + 1, true, false, x) ?_ ?_ ?_ ?_ ?_
           rotate_left 2
           · exact ⟨rfl, rfl, rfl, trivial⟩
           · intro w' hw'
             refine hw'.sub ?_
             repeat (first | exact List.Sublist.refl _ | apply List.Sublist.cons_cons | apply List.Sublist.cons)
             done
           · exact hdec
           · refine ⟨hi1, ?_, ?_, ?_⟩
             · show 0 ≤ x
               omega
             · show x ≤ 1200
               omega
             · simp only [hox, hbq, decide_true, decide_false]
               done
           · (repeat (first | exact Out.refl _ _ | exact Out.mix | (apply Out.upd; (· exact rfl)) | (apply Out.updL; (· exact rfl)) | (apply Out.mixs; (· exact rfl))))
          )
        | (refine At.again (i + 1, true, false, B) ?_ ?_ ?_ ?_ ?_
           rotate_left 2
           · exact ⟨rfl, rfl, rfl, trivial⟩
           · intro w' hw'
             refine hw'.sub ?_
             repeat (first | exact List.Sublist.refl _ | apply List.Sublist.cons_cons | apply List.Sublist.cons)
             done
           · exact hdec
           · refine ⟨hi1, ?_, ?_, ?_⟩
             · show 0 ≤ B
               omega
             · show B ≤ 1200
               omega
             · simp only [hox, hbq, decide_true, decide_false]
               done
           · (repeat (first | exact Out.refl _ _ | exact Out.mix | (apply Out.upd; (· exact rfl)) | (apply Out.updL; (· exact rfl)) | (apply Out.mixs; (· exact rfl))))
          )
        | (refine At.again (i + 1, false, true, x) ?_ ?_ ?_ ?_ ?_
           rotate_left 2
           · exact ⟨rfl, rfl, rfl, trivial⟩
           · intro w' hw'
             refine hw'.sub ?_
             repeat (first | exact List.Sublist.refl _ | apply List.Sublist.cons_cons | apply List.Sublist.cons)
             done
           · exact hdec
           · refine ⟨hi1, ?_, ?_, ?_⟩
             · show 0 ≤ x
               omega
             · show x ≤ 1200
               omega
             · simp only [hox, hbq, decide_true, decide_false]
               done
           · (repeat (first | exact Out.refl _ _ | exact Out.mix | (apply Out.upd; (· exact rfl)) | (apply Out.updL; (· exact rfl)) | (apply Out.mixs; (· exact rfl))))
          )
        | (refine At.again (i + 1, false, true, B) ?_ ?_ ?_ ?_ ?_
           rotate_left 2
           · exact ⟨rfl, rfl, rfl, trivial⟩
           · intro w' hw'
             refine hw'.sub ?_
             repeat (first | exact List.Sublist.refl _ | apply List.Sublist.cons_cons | apply List.Sublist.cons)
             done
           · exact hdec
           · refine ⟨hi1, ?_, ?_, ?_⟩
             · show 0 ≤ B
               omega
             · show B ≤ 1200
               omega
             · simp only [hox, hbq, decide_true, decide_false]
               done
           · (repeat (first | exact Out.refl _ _ | exact Out.mix | (apply Out.upd; (· exact rfl)) | (apply Out.updL; (· exact rfl)) | (apply Out.mixs; (· exact rfl))))
          )
        | (refine At.again (i + 1, false, false, x) ?_ ?_ ?_ ?_ ?_
           rotate_left 2
           · exact ⟨rfl, rfl, rfl, trivial⟩
           · intro w' hw'
             refine hw'.sub ?_
             repeat (first | exact List.Sublist.refl _ | apply List.Sublist.cons_cons | apply List.Sublist.cons)
             done
           · exact hdec
           · refine ⟨hi1, ?_, ?_, ?_⟩
             · show 0 ≤ x
               omega
             · show x ≤ 1200
               omega
             · simp only [hox, hbq, decide_true, decide_false]
               done
           · (repeat (first | exact Out.refl _ _ | exact Out.mix | (apply Out.upd; (· exact rfl)) | (apply Out.updL; (· exact rfl)) | (apply Out.mixs; (· exact rfl))))
          )
        | (refine At.again (i + 1, false, false, B) ?_ ?_ ?_ ?_ ?_
           rotate_left 2
           · exact ⟨rfl, rfl, rfl, trivial⟩
           · intro w' hw'
             refine hw'.sub ?_
             repeat (first | exact List.Sublist.refl _ | apply List.Sublist.cons_cons | apply List.Sublist.cons)
             done
           · exact hdec
           · refine ⟨hi1, ?_, ?_, ?_⟩
             · show 0 ≤ B
               omega
             · show B ≤ 1200
               omega
             · simp only [hox, hbq, decide_true, decide_false]
               done
           · (repeat (first | exact Out.refl _ _ | exact Out.mix | (apply Out.upd; (· exact rfl)) | (apply Out.updL; (· exact rfl)) | (apply Out.mixs; (· exact rfl))))
          )))
  · repeat' (
      first
      | (
        first
        | (apply kp; iterate 2 exact rfl)
        | apply ja | apply jb | apply jg | apply jj | (apply je; exact rfl) | (apply jf; exact rfl) | apply jd | apply jh | apply ji | (apply jc; kernel_rfl) | apply jk | apply jl | apply jm | apply jn | apply jo | (apply jp; exact rfl) | apply jq | apply jr | apply js | apply jt | apply ju | apply jv | apply jw | apply kN | apply kM
        | (apply kf; iterate 2 exact rfl)
        | (apply ko; (· exact rfl); (· repeat (first | exact mH _ _ | apply mT)); iterate 2 exact rfl)
        | (apply ka; (· exact rfl); (· repeat (first | exact mH _ _ | apply mT)); iterate 2 exact rfl)
        | (apply kr; (· exact rfl); (· repeat (first | exact mH _ _ | apply mT)); iterate 3 exact rfl)
        | (apply ks; (· exact rfl); (· repeat (first | exact mH _ _ | apply mT)); iterate 2 exact rfl)
        | (apply kn; iterate 2 exact rfl)
        | (apply ke; iterate 2 exact rfl)
        | (apply kx; iterate 2 exact rfl)
        | (apply kc; iterate 2 exact rfl)
        | (apply kb; iterate 2 exact rfl)
        | (apply kg; iterate 2 exact rfl)
        | (apply kG; iterate 3 exact rfl)
        | (apply kB; (iterate 2 exact rfl); intro _)
        | (apply kA; exact rfl; intro _)
        | (apply kL; (iterate 3 exact rfl); (· repeat (first | exact BS.nil _ | (apply BS.int; exact rfl) | (apply BS.ptr; exact rfl) | (apply BS.slice; exact rfl) | (apply BS.agg; iterate 2 exact rfl))); intro _)
        | (apply kT; (iterate 2 exact rfl); (· repeat (first | exact sH _ _ _ | apply sT)); iterate 2 exact rfl)
        | (apply kS; (iterate 2 exact rfl); (· repeat (first | exact sH _ _ _ | apply sT)); exact rfl)
        | (apply kh; (iterate 2 exact rfl); (first | decide | omega); exact rfl)
        | (apply kl; (iterate 2 exact rfl); (first | decide | omega); exact rfl)
        )
      | ((first | (apply kR; (· exact rfl); (· exact rfl)) | (apply kQ; (· exact rfl))); all_goals (intro hc; try simp only [decide_eq_true_eq, decide_eq_false_iff_not, Bool.not_eq_true', Bool.not_eq_false', Bool.not_eq_true, Bool.not_eq_false, Bool.not_true, Bool.not_false, Int.not_lt, Int.not_le, List.cons.injEq, and_true, beq_iff_eq, beq_eq_false_iff_ne] at hc; try (exfalso; first | contradiction | omega)))
      )
    all_goals (
      (apply ret1; (· exact rfl); intro w' hS)
      exact ⟨rfl, hS.toKeep⟩)
theorem ints_of : ∀ (css : List (List Value)), (∀ c ∈ css, ∃ n : Int, c = [.int .i64 n] ∧ i64 n) → ∃ l : List Int, css.flatten = iv l ∧ l.length = css.length ∧ ∀ x ∈ l, i64 x
  | [], _ => ⟨[], rfl, rfl, fun p hp => by simp at hp⟩
  | c :: r, h => by
    obtain ⟨n, rfl, hp⟩ := h c List.mem_cons_self
    obtain ⟨l, h1, h2, h3⟩ := ints_of r fun c hc => h c (List.mem_cons_of_mem _ hc)
    refine ⟨n :: l, by rw [List.flatten_cons, h1]; rfl, by simp [h2], fun q hq => ?_⟩
    rcases List.mem_cons.1 hq with rfl | hq
    · exact hp
    · exact h3 q hq
theorem opn_ints : Opn Try.prog 49 (fun w cs => ∃ (a : Option Addr) (c : Nat) (l : List Int), cs = [.slice a l.length c] ∧ Rd w a (iv l) ∧ (∀ x ∈ l, i64 x) ∧ (a = none → c = 0) ∧ l.length ≤ c ∧ l.length ≤ 140737488351232) := by
  refine (opn_slice Try.underlying49 (sz := 1) (by_ := 8) (by kernel_rfl) (by omega) (by kernel_rfl) opn_i64).mono ?_
  rintro w cs ⟨a, len, cap, css, rfl, rfl, hg, hr, hz, hc, hm⟩
  obtain ⟨l, h1, h2, h3⟩ := ints_of css fun c hc => (hg c hc).1
  rw [h1] at hr
  have hm : css.length * 8 ≤ 140737488351232 := hm
  exact ⟨a, cap, l, by rw [h2], hr, h3, hz, by omega, by omega⟩
end Go.Proofs.Ytphcnaafhcfakaa
