/-
  The writer of the layer word: Put.
-/
import Derived.Test.YtomlgnncncjmaaaA3
-- all by hand
namespace Go.Proofs.Ytomlgnncncjmaaa
open Go.Hb
attribute [local irreducible] LR CW At Ev thn blk finK noG again CallsTo
set_option linter.unusedSimpArgs false
set_option linter.unusedVariables false
set_option maxRecDepth 100000

/-- A number in groups of seven bits, the lowest first; k more groups may follow. -/
def encF : Nat → Nat → List Int
  | 0, x => [(x : Int)]
  | k + 1, x => if x < 128 then [(x : Int)] else ((x % 128 + 128 : Nat) : Int) :: encF k (x / 128)
def enc (x : Nat) : List Int := encF 8 x
def putE (x : Int) : Int := if 0 ≤ x ∧ x ≤ 9007199254740991 then 0 else 9
def putL (x : Int) : List Int := if 0 ≤ x ∧ x ≤ 9007199254740991 then enc x.toNat else []
theorem encF_len : ∀ k x, (encF k x).length ≤ k + 1
  | 0, x => by simp [encF]
  | k + 1, x => by
    unfold encF; split
    · simp
    · have := encF_len k (x / 128); simp; omega
theorem encF_small (k x : Nat) (h : x < 128) : encF k x = [(x : Int)] := by cases k <;> simp [encF, h]

theorem or_more : ∀ a : Nat, a < 256 → orI .u8 (a : Int) 128 = ((a % 128 + 128 : Nat) : Int) := by decide +kernel
theorem wrap_u8 (x : Nat) : IntKind.u8.wrap (x : Int) = ((x % 256 : Nat) : Int) := by
  simp [IntKind.wrap, IntKind.signed, IntKind.bits]
theorem wrap_u64 {x : Int} (h : 0 ≤ x) (h2 : x < 18446744073709551616) : IntKind.u64.wrap x = x := by
  simp [IntKind.wrap, IntKind.signed, IntKind.bits]; omega
theorem shr7 (x : Nat) : (x : Int).fdiv (2 ^ (min (7 : Int).toNat IntKind.u64.bits)) = ((x / 128 : Nat) : Int) := by
  have : (2 : Int) ^ (min (7 : Int).toNat IntKind.u64.bits) = 128 := by decide
  rw [this, Int.fdiv_eq_ediv_of_nonneg _ (by omega)]; omega

set_option maxHeartbeats 1000000 in
theorem c87 (bw : Nat) (a : Option Addr) (c : Nat) (l : List Int) (x : Int) (w : World) (h : wrP 118 [.bool true] bw a c l w) (hm : l.length ≤ 1099511627776) :
    CallsTo Try.prog 87 [.pointer (some ⟨bw, 0, none⟩), .int .i64 x] w fun v w' => ∃ a' c', v = .int .i64 (putE x) ∧ Step (wrA 118 [.bool true] bw a c l) (wrA 118 [.bool true] bw a' c' (l ++ putL x)) w w' := by
  refine go_in (n := 45) (wr_start h) Try.func87 rfl rfl ?_
  by_cases hx : 0 ≤ x ∧ x ≤ 9007199254740991
  · repeat' (
      first
      | (
        first
        | (apply kp; iterate 2 exact rfl)
        | apply ja | apply jb | apply jg | apply jj | (apply je; exact rfl) | (apply jf; exact rfl) | apply jd | apply jh | apply ji | (apply jc; kernel_rfl) | apply jk | apply jl | apply jm | apply jn | apply jo | (apply jp; exact rfl) | apply jq | apply jr | apply js | apply jt | apply ju | apply jv | apply jw | apply kN | apply kM
        | (apply kf; iterate 2 exact rfl)
        | (apply ko; (· exact rfl); (· repeat (first | exact mH _ _ | apply mT)); iterate 2 exact rfl)
        | (apply ka; (· exact rfl); (· repeat (first | exact mH _ _ | apply mT)); iterate 2 exact rfl)
        | (apply kr; (· exact rfl); (· repeat (first | exact mH _ _ | apply mT)); iterate 3 exact rfl)
        | (apply ks; (· exact rfl); (· repeat (first | exact mH _ _ | apply mT)); iterate 2 exact rfl)
        | (apply kn; iterate 2 exact rfl)
        | (apply ke; iterate 2 exact rfl)
        | (apply kx; iterate 2 exact rfl)
        | (apply kc; iterate 2 exact rfl)
        | (apply kb; iterate 2 exact rfl)
        | (apply kg; iterate 2 exact rfl)
        | (apply kG; iterate 3 exact rfl)
        | (apply kB; (iterate 2 exact rfl); intro _)
        | (apply kA; exact rfl; intro _)
        | (apply kL; (iterate 3 exact rfl); (· repeat (first | exact BS.nil _ | (apply BS.int; exact rfl) | (apply BS.ptr; exact rfl) | (apply BS.slice; exact rfl) | (apply BS.agg; iterate 2 exact rfl))); intro _)
        | (apply kT; (iterate 2 exact rfl); (· repeat (first | exact sH _ _ _ | apply sT)); iterate 2 exact rfl)
        | (apply kS; (iterate 2 exact rfl); (· repeat (first | exact sH _ _ _ | apply sT)); exact rfl)
        | (apply kh; (iterate 2 exact rfl); (first | decide | omega); exact rfl)
        | (apply kl; (iterate 2 exact rfl); (first | decide | omega); exact rfl)
        )
      | (apply LR.qcall; (· exact rfl); (· intro w1 h1; exact CallsTo.q (c88 _ _ w1 (h1.own_at (List.Mem.head _))) h1))
      | ((first | (apply kR; (· exact rfl); (· exact rfl)) | (apply kQ; (· exact rfl))); all_goals (intro hc; try simp only [decide_eq_true_eq, decide_eq_false_iff_not, Bool.not_eq_true', Bool.not_eq_false', Bool.not_eq_true, Bool.not_eq_false, Bool.not_true, Bool.not_false, Int.not_lt, Int.not_le, List.cons.injEq, and_true, beq_iff_eq, beq_eq_false_iff_ne] at hc; try (exfalso; first | contradiction | omega)))
      )
    apply CW.loop [4, 5, 18, 19, 20, 21, 22, 23, 24, 25, 26, 27, 28, 29, 30, 31, 32, 33, 34, 35, 36, 37, 38, 39, 40, 41, 42, 43, 44] (fun s : Nat × Nat × List Int × Option Addr × Nat => l ++ enc x.toNat = s.2.2.1 ++ encF s.1 s.2.1 ∧ s.2.1 < 128 ^ (s.1 + 1) ∧ s.1 ≤ 8)
      (fun s => [(5, Value.int .u64 (s.2.1 : Int))]) (fun s => St w (wrF bw a) [wr1 118 [.bool true] bw s.2.2.2.1 s.2.2.2.2 s.2.2.1, wr2 s.2.2.2.1 s.2.2.2.2 s.2.2.1]) (fun s => s.1)
    · refine fun w' hw' => ⟨(8, x.toNat, l, a, c), ⟨rfl, ?_, by simp⟩, ⟨?_, trivial⟩, hw'⟩
      · show x.toNat < 128 ^ 9
        have : (128 : Nat) ^ 9 = 9223372036854775808 := by decide
        omega
      · show Value.int .u64 (IntKind.u64.wrap x) = Value.int .u64 ((x.toNat : Nat) : Int)
        rw [wrap_u64 (by omega) (by omega), Int.toNat_of_nonneg (by omega)]
    rintro ⟨k, y, l', a', c'⟩ g ⟨he, hy, hk⟩
    simp only at he hy hk ⊢
    have hlen : l'.length ≤ l.length + 9 := by
      have h1 := congrArg List.length he
      simp only [List.length_append] at h1
      have h2 := encF_len 8 x.toNat
      unfold enc at h1
      omega
    by_cases hs : y < 128
    · repeat' (
        first
        | (
          first
          | (apply kp; iterate 2 exact rfl)
          | apply ja | apply jb | apply jg | apply jj | (apply je; exact rfl) | (apply jf; exact rfl) | apply jd | apply jh | apply ji | (apply jc; kernel_rfl) | apply jk | apply jl | apply jm | apply jn | apply jo | (apply jp; exact rfl) | apply jq | apply jr | apply js | apply jt | apply ju | apply jv | apply jw | apply kN | apply kM
          | (apply kf; iterate 2 exact rfl)
          | (apply ko; (· exact rfl); (· repeat (first | exact mH _ _ | apply mT)); iterate 2 exact rfl)
          | (apply ka; (· exact rfl); (· repeat (first | exact mH _ _ | apply mT)); iterate 2 exact rfl)
          | (apply kr; (· exact rfl); (· repeat (first | exact mH _ _ | apply mT)); iterate 3 exact rfl)
          | (apply ks; (· exact rfl); (· repeat (first | exact mH _ _ | apply mT)); iterate 2 exact rfl)
          | (apply kn; iterate 2 exact rfl)
          | (apply ke; iterate 2 exact rfl)
          | (apply kx; iterate 2 exact rfl)
          | (apply kc; iterate 2 exact rfl)
          | (apply kb; iterate 2 exact rfl)
          | (apply kg; iterate 2 exact rfl)
          | (apply kG; iterate 3 exact rfl)
          | (apply kB; (iterate 2 exact rfl); intro _)
          | (apply kA; exact rfl; intro _)
          | (apply kL; (iterate 3 exact rfl); (· repeat (first | exact BS.nil _ | (apply BS.int; exact rfl) | (apply BS.ptr; exact rfl) | (apply BS.slice; exact rfl) | (apply BS.agg; iterate 2 exact rfl))); intro _)
          | (apply kT; (iterate 2 exact rfl); (· repeat (first | exact sH _ _ _ | apply sT)); iterate 2 exact rfl)
          | (apply kS; (iterate 2 exact rfl); (· repeat (first | exact sH _ _ _ | apply sT)); exact rfl)
          | (apply kh; (iterate 2 exact rfl); (first | decide | omega); exact rfl)
          | (apply kl; (iterate 2 exact rfl); (first | decide | omega); exact rfl)
          )
        | (refine LR.append rfl rfl (fun a' c' => Sel.tail _ (Sel.tail _ (Sel.head _ _ _))) (fun w' hw' => hw'.rd_of_blk (List.Mem.head _)) (by simp) rfl rfl (by omega) (by unfold maxLen; omega) rfl ?_; intro a2 c2)
        | ((first | (apply kR; (· exact rfl); (· exact rfl)) | (apply kQ; (· exact rfl))); all_goals (intro hc; try simp only [decide_eq_true_eq, decide_eq_false_iff_not, Bool.not_eq_true', Bool.not_eq_false', Bool.not_eq_true, Bool.not_eq_false, Bool.not_true, Bool.not_false, Int.not_lt, Int.not_le, List.cons.injEq, and_true, beq_iff_eq, beq_eq_false_iff_ne] at hc; try (exfalso; first | contradiction | omega)))
        )
      (apply ret1; (· exact rfl); intro w' hS)
      have hp : l ++ putL x = l' ++ [(y : Int)] := by unfold putL; rw [if_pos hx, he, encF_small _ _ hs]
      refine ⟨a2, c2, by unfold putE; rw [if_pos hx]; rfl, ?_⟩
      rw [hp]
      refine wr_end (R := []) (hS.tail1.cast ?_)
      simp [wr1, wr2, splice, wrap_u8, Nat.mod_eq_of_lt (show y < 256 by omega), bv]
    · repeat' (
        first
        | (
          first
          | (apply kp; iterate 2 exact rfl)
          | apply ja | apply jb | apply jg | apply jj | (apply je; exact rfl) | (apply jf; exact rfl) | apply jd | apply jh | apply ji | (apply jc; kernel_rfl) | apply jk | apply jl | apply jm | apply jn | apply jo | (apply jp; exact rfl) | apply jq | apply jr | apply js | apply jt | apply ju | apply jv | apply jw | apply kN | apply kM
          | (apply kf; iterate 2 exact rfl)
          | (apply ko; (· exact rfl); (· repeat (first | exact mH _ _ | apply mT)); iterate 2 exact rfl)
          | (apply ka; (· exact rfl); (· repeat (first | exact mH _ _ | apply mT)); iterate 2 exact rfl)
          | (apply kr; (· exact rfl); (· repeat (first | exact mH _ _ | apply mT)); iterate 3 exact rfl)
          | (apply ks; (· exact rfl); (· repeat (first | exact mH _ _ | apply mT)); iterate 2 exact rfl)
          | (apply kn; iterate 2 exact rfl)
          | (apply ke; iterate 2 exact rfl)
          | (apply kx; iterate 2 exact rfl)
          | (apply kc; iterate 2 exact rfl)
          | (apply kb; iterate 2 exact rfl)
          | (apply kg; iterate 2 exact rfl)
          | (apply kG; iterate 3 exact rfl)
          | (apply kB; (iterate 2 exact rfl); intro _)
          | (apply kA; exact rfl; intro _)
          | (apply kL; (iterate 3 exact rfl); (· repeat (first | exact BS.nil _ | (apply BS.int; exact rfl) | (apply BS.ptr; exact rfl) | (apply BS.slice; exact rfl) | (apply BS.agg; iterate 2 exact rfl))); intro _)
          | (apply kT; (iterate 2 exact rfl); (· repeat (first | exact sH _ _ _ | apply sT)); iterate 2 exact rfl)
          | (apply kS; (iterate 2 exact rfl); (· repeat (first | exact sH _ _ _ | apply sT)); exact rfl)
          | (apply kh; (iterate 2 exact rfl); (first | decide | omega); exact rfl)
          | (apply kl; (iterate 2 exact rfl); (first | decide | omega); exact rfl)
          )
        | (refine LR.append rfl rfl (fun a' c' => Sel.tail _ (Sel.tail _ (Sel.head _ _ _))) (fun w' hw' => hw'.rd_of_blk (List.Mem.head _)) (by simp) rfl rfl (by omega) (by unfold maxLen; omega) rfl ?_; intro a2 c2)
        | ((first | (apply kR; (· exact rfl); (· exact rfl)) | (apply kQ; (· exact rfl))); all_goals (intro hc; try simp only [decide_eq_true_eq, decide_eq_false_iff_not, Bool.not_eq_true', Bool.not_eq_false', Bool.not_eq_true, Bool.not_eq_false, Bool.not_true, Bool.not_false, Int.not_lt, Int.not_le, List.cons.injEq, and_true, beq_iff_eq, beq_eq_false_iff_ne] at hc; try (exfalso; first | contradiction | omega)))
        )
      obtain ⟨k', rfl⟩ : ∃ k', k = k' + 1 := by
        cases k with
        | zero => simp at hy; omega
        | succ k' => exact ⟨k', rfl⟩
      apply At.again (k', y / 128, l' ++ [((y % 128 + 128 : Nat) : Int)], a2, c2)
      · refine ⟨?_, ?_, by show k' ≤ 8; omega⟩
        · show l ++ enc x.toNat = (l' ++ [_]) ++ encF k' (y / 128)
          rw [he, encF, if_neg hs, List.append_assoc]; rfl
        · show y / 128 < 128 ^ (k' + 1)
          rw [Nat.pow_succ] at hy; omega
      · (repeat (first | exact Out.refl _ _ | exact Out.mix | (apply Out.upd; (· exact rfl)) | (apply Out.updL; (· exact rfl)) | (apply Out.mixs; (· exact rfl))))
      · refine ⟨?_, trivial⟩
        show Value.int .u64 ((y : Int).fdiv (2 ^ (min (7 : Int).toNat IntKind.u64.bits))) = Value.int .u64 ((y / 128 : Nat) : Int)
        rw [shr7]
      · intro w' hw'
        refine hw'.tail1.cast ?_
        have ho : orI .u8 ((y % 256 : Nat) : Int) 128 = ((y % 128 + 128 : Nat) : Int) := by rw [or_more _ (by omega)]; congr 2; omega
        simp only [wr1, wr2, splice, wrap_u8, ho, bv]
        simp
      · show k' < k' + 1; omega
  · repeat' (
      first
      | (
        first
        | (apply kp; iterate 2 exact rfl)
        | apply ja | apply jb | apply jg | apply jj | (apply je; exact rfl) | (apply jf; exact rfl) | apply jd | apply jh | apply ji | (apply jc; kernel_rfl) | apply jk | apply jl | apply jm | apply jn | apply jo | (apply jp; exact rfl) | apply jq | apply jr | apply js | apply jt | apply ju | apply jv | apply jw | apply kN | apply kM
        | (apply kf; iterate 2 exact rfl)
        | (apply ko; (· exact rfl); (· repeat (first | exact mH _ _ | apply mT)); iterate 2 exact rfl)
        | (apply ka; (· exact rfl); (· repeat (first | exact mH _ _ | apply mT)); iterate 2 exact rfl)
        | (apply kr; (· exact rfl); (· repeat (first | exact mH _ _ | apply mT)); iterate 3 exact rfl)
        | (apply ks; (· exact rfl); (· repeat (first | exact mH _ _ | apply mT)); iterate 2 exact rfl)
        | (apply kn; iterate 2 exact rfl)
        | (apply ke; iterate 2 exact rfl)
        | (apply kx; iterate 2 exact rfl)
        | (apply kc; iterate 2 exact rfl)
        | (apply kb; iterate 2 exact rfl)
        | (apply kg; iterate 2 exact rfl)
        | (apply kG; iterate 3 exact rfl)
        | (apply kB; (iterate 2 exact rfl); intro _)
        | (apply kA; exact rfl; intro _)
        | (apply kL; (iterate 3 exact rfl); (· repeat (first | exact BS.nil _ | (apply BS.int; exact rfl) | (apply BS.ptr; exact rfl) | (apply BS.slice; exact rfl) | (apply BS.agg; iterate 2 exact rfl))); intro _)
        | (apply kT; (iterate 2 exact rfl); (· repeat (first | exact sH _ _ _ | apply sT)); iterate 2 exact rfl)
        | (apply kS; (iterate 2 exact rfl); (· repeat (first | exact sH _ _ _ | apply sT)); exact rfl)
        | (apply kh; (iterate 2 exact rfl); (first | decide | omega); exact rfl)
        | (apply kl; (iterate 2 exact rfl); (first | decide | omega); exact rfl)
        )
      | (apply LR.qcall; (· exact rfl); (· intro w1 h1; exact CallsTo.q (c88 _ _ w1 (h1.own_at (List.Mem.head _))) h1))
      | ((first | (apply kR; (· exact rfl); (· exact rfl)) | (apply kQ; (· exact rfl))); all_goals (intro hc; try simp only [decide_eq_true_eq, decide_eq_false_iff_not, Bool.not_eq_true', Bool.not_eq_false', Bool.not_eq_true, Bool.not_eq_false, Bool.not_true, Bool.not_false, Int.not_lt, Int.not_le, List.cons.injEq, and_true, beq_iff_eq, beq_eq_false_iff_ne] at hc; try (exfalso; first | contradiction | omega)))
      )
    all_goals (
      (apply ret1; (· exact rfl); intro w' hS)
      have hp : putL x = [] := by unfold putL; rw [if_neg hx]
      have hq : putE x = 9 := by unfold putE; rw [if_neg hx]
      refine ⟨a, c, by rw [hq]; rfl, ?_⟩
      rw [hp, List.append_nil]
      exact wr_same hS)
theorem c78 (bw : Nat) (a : Option Addr) (c : Nat) (l : List Int) (x : Int) (w : World) (h : wrP 127 [] bw a c l w) (hm : l.length ≤ 1099511627776) :
    CallsTo Try.prog 78 [.pointer (some ⟨bw, 0, none⟩), .int .i64 x] w fun v w' => ∃ a' c', v = .int .i64 (putE x) ∧ Step (wrA 127 [] bw a c l) (wrA 127 [] bw a' c' (l ++ putL x)) w w' := by
  refine go_in (n := 39) (wr_start h) Try.func78 rfl rfl ?_
  by_cases hx : 0 ≤ x ∧ x ≤ 9007199254740991
  · repeat' (
      first
      | (
        first
        | (apply kp; iterate 2 exact rfl)
        | apply ja | apply jb | apply jg | apply jj | (apply je; exact rfl) | (apply jf; exact rfl) | apply jd | apply jh | apply ji | (apply jc; kernel_rfl) | apply jk | apply jl | apply jm | apply jn | apply jo | (apply jp; exact rfl) | apply jq | apply jr | apply js | apply jt | apply ju | apply jv | apply jw | apply kN | apply kM
        | (apply kf; iterate 2 exact rfl)
        | (apply ko; (· exact rfl); (· repeat (first | exact mH _ _ | apply mT)); iterate 2 exact rfl)
        | (apply ka; (· exact rfl); (· repeat (first | exact mH _ _ | apply mT)); iterate 2 exact rfl)
        | (apply kr; (· exact rfl); (· repeat (first | exact mH _ _ | apply mT)); iterate 3 exact rfl)
        | (apply ks; (· exact rfl); (· repeat (first | exact mH _ _ | apply mT)); iterate 2 exact rfl)
        | (apply kn; iterate 2 exact rfl)
        | (apply ke; iterate 2 exact rfl)
        | (apply kx; iterate 2 exact rfl)
        | (apply kc; iterate 2 exact rfl)
        | (apply kb; iterate 2 exact rfl)
        | (apply kg; iterate 2 exact rfl)
        | (apply kG; iterate 3 exact rfl)
        | (apply kB; (iterate 2 exact rfl); intro _)
        | (apply kA; exact rfl; intro _)
        | (apply kL; (iterate 3 exact rfl); (· repeat (first | exact BS.nil _ | (apply BS.int; exact rfl) | (apply BS.ptr; exact rfl) | (apply BS.slice; exact rfl) | (apply BS.agg; iterate 2 exact rfl))); intro _)
        | (apply kT; (iterate 2 exact rfl); (· repeat (first | exact sH _ _ _ | apply sT)); iterate 2 exact rfl)
        | (apply kS; (iterate 2 exact rfl); (· repeat (first | exact sH _ _ _ | apply sT)); exact rfl)
        | (apply kh; (iterate 2 exact rfl); (first | decide | omega); exact rfl)
        | (apply kl; (iterate 2 exact rfl); (first | decide | omega); exact rfl)
        )
      | ((first | (apply kR; (· exact rfl); (· exact rfl)) | (apply kQ; (· exact rfl))); all_goals (intro hc; try simp only [decide_eq_true_eq, decide_eq_false_iff_not, Bool.not_eq_true', Bool.not_eq_false', Bool.not_eq_true, Bool.not_eq_false, Bool.not_true, Bool.not_false, Int.not_lt, Int.not_le, List.cons.injEq, and_true, beq_iff_eq, beq_eq_false_iff_ne] at hc; try (exfalso; first | contradiction | omega)))
      )
    apply CW.loop [1, 11, 12, 13, 14, 15, 16, 17, 18, 19, 20, 21, 22, 23, 24, 25, 26, 27] (fun s : Nat × Nat × List Int × Option Addr × Nat => l ++ enc x.toNat = s.2.2.1 ++ encF s.1 s.2.1 ∧ s.2.1 < 128 ^ (s.1 + 1) ∧ s.1 ≤ 8 ∧ s.2.1 ≤ 9007199254740991)
      (fun s => [(1, Value.int .i64 (s.2.1 : Int))]) (fun s => St w (wrF bw a) [wr1 127 [] bw s.2.2.2.1 s.2.2.2.2 s.2.2.1, wr2 s.2.2.2.1 s.2.2.2.2 s.2.2.1]) (fun s => s.1)
    · refine fun w' hw' => ⟨(8, x.toNat, l, a, c), ⟨rfl, ?_, by simp, by show x.toNat ≤ _; omega⟩, ⟨?_, trivial⟩, hw'⟩
      · show x.toNat < 128 ^ 9
        have : (128 : Nat) ^ 9 = 9223372036854775808 := by decide
        omega
      · show Value.int .i64 x = Value.int .i64 ((x.toNat : Nat) : Int)
        rw [Int.toNat_of_nonneg (by omega)]
    rintro ⟨k, y, l', a', c'⟩ g ⟨he, hy, hk, hb⟩
    simp only at he hy hk hb ⊢
    have hlen : l'.length ≤ l.length + 9 := by
      have h1 := congrArg List.length he
      simp only [List.length_append] at h1
      have h2 := encF_len 8 x.toNat
      unfold enc at h1
      omega
    have hr0 : (0 : Int) ≤ (y : Int).tmod 128 ∧ (y : Int).tmod 128 < 128 := by
      rw [Int.tmod_eq_emod_of_nonneg (by omega)]; omega
    by_cases hs : y < 128
    · repeat' (
        first
        | (
          first
          | (apply kp; iterate 2 exact rfl)
          | apply ja | apply jb | apply jg | apply jj | (apply je; exact rfl) | (apply jf; exact rfl) | apply jd | apply jh | apply ji | (apply jc; kernel_rfl) | apply jk | apply jl | apply jm | apply jn | apply jo | (apply jp; exact rfl) | apply jq | apply jr | apply js | apply jt | apply ju | apply jv | apply jw | apply kN | apply kM
          | (apply kf; iterate 2 exact rfl)
          | (apply ko; (· exact rfl); (· repeat (first | exact mH _ _ | apply mT)); iterate 2 exact rfl)
          | (apply ka; (· exact rfl); (· repeat (first | exact mH _ _ | apply mT)); iterate 2 exact rfl)
          | (apply kr; (· exact rfl); (· repeat (first | exact mH _ _ | apply mT)); iterate 3 exact rfl)
          | (apply ks; (· exact rfl); (· repeat (first | exact mH _ _ | apply mT)); iterate 2 exact rfl)
          | (apply kn; iterate 2 exact rfl)
          | (apply ke; iterate 2 exact rfl)
          | (apply kx; iterate 2 exact rfl)
          | (apply kc; iterate 2 exact rfl)
          | (apply kb; iterate 2 exact rfl)
          | (apply kg; iterate 2 exact rfl)
          | (apply kG; iterate 3 exact rfl)
          | (apply kB; (iterate 2 exact rfl); intro _)
          | (apply kA; exact rfl; intro _)
          | (apply kL; (iterate 3 exact rfl); (· repeat (first | exact BS.nil _ | (apply BS.int; exact rfl) | (apply BS.ptr; exact rfl) | (apply BS.slice; exact rfl) | (apply BS.agg; iterate 2 exact rfl))); intro _)
          | (apply kT; (iterate 2 exact rfl); (· repeat (first | exact sH _ _ _ | apply sT)); iterate 2 exact rfl)
          | (apply kS; (iterate 2 exact rfl); (· repeat (first | exact sH _ _ _ | apply sT)); exact rfl)
          | (apply kh; (iterate 2 exact rfl); (first | decide | omega); exact rfl)
          | (apply kl; (iterate 2 exact rfl); (first | decide | omega); exact rfl)
          )
        | (refine LR.append rfl rfl (fun a' c' => Sel.tail _ (Sel.tail _ (Sel.head _ _ _))) (fun w' hw' => hw'.rd_of_blk (List.Mem.head _)) (by simp) rfl rfl (by omega) (by unfold maxLen; omega) rfl ?_; intro a2 c2)
        | ((first | (apply kR; (· exact rfl); (· exact rfl)) | (apply kQ; (· exact rfl))); all_goals (intro hc; try simp only [decide_eq_true_eq, decide_eq_false_iff_not, Bool.not_eq_true', Bool.not_eq_false', Bool.not_eq_true, Bool.not_eq_false, Bool.not_true, Bool.not_false, Int.not_lt, Int.not_le, List.cons.injEq, and_true, beq_iff_eq, beq_eq_false_iff_ne] at hc; try (exfalso; first | contradiction | omega)))
        )
      (apply ret1; (· exact rfl); intro w' hS)
      have hp : l ++ putL x = l' ++ [(y : Int)] := by unfold putL; rw [if_pos hx, he, encF_small _ _ hs]
      refine ⟨a2, c2, by unfold putE; rw [if_pos hx]; rfl, ?_⟩
      rw [hp]
      refine wr_end (R := []) (hS.tail1.cast ?_)
      simp [wr1, wr2, splice, wrap_u8, Nat.mod_eq_of_lt (show y < 256 by omega), bv]
    · repeat' (
        first
        | (
          first
          | (apply kp; iterate 2 exact rfl)
          | apply ja | apply jb | apply jg | apply jj | (apply je; exact rfl) | (apply jf; exact rfl) | apply jd | apply jh | apply ji | (apply jc; kernel_rfl) | apply jk | apply jl | apply jm | apply jn | apply jo | (apply jp; exact rfl) | apply jq | apply jr | apply js | apply jt | apply ju | apply jv | apply jw | apply kN | apply kM
          | (apply kf; iterate 2 exact rfl)
          | (apply ko; (· exact rfl); (· repeat (first | exact mH _ _ | apply mT)); iterate 2 exact rfl)
          | (apply ka; (· exact rfl); (· repeat (first | exact mH _ _ | apply mT)); iterate 2 exact rfl)
          | (apply kr; (· exact rfl); (· repeat (first | exact mH _ _ | apply mT)); iterate 3 exact rfl)
          | (apply ks; (· exact rfl); (· repeat (first | exact mH _ _ | apply mT)); iterate 2 exact rfl)
          | (apply kn; iterate 2 exact rfl)
          | (apply ke; iterate 2 exact rfl)
          | (apply kx; iterate 2 exact rfl)
          | (apply kc; iterate 2 exact rfl)
          | (apply kb; iterate 2 exact rfl)
          | (apply kg; iterate 2 exact rfl)
          | (apply kG; iterate 3 exact rfl)
          | (apply kB; (iterate 2 exact rfl); intro _)
          | (apply kA; exact rfl; intro _)
          | (apply kL; (iterate 3 exact rfl); (· repeat (first | exact BS.nil _ | (apply BS.int; exact rfl) | (apply BS.ptr; exact rfl) | (apply BS.slice; exact rfl) | (apply BS.agg; iterate 2 exact rfl))); intro _)
          | (apply kT; (iterate 2 exact rfl); (· repeat (first | exact sH _ _ _ | apply sT)); iterate 2 exact rfl)
          | (apply kS; (iterate 2 exact rfl); (· repeat (first | exact sH _ _ _ | apply sT)); exact rfl)
          | (apply kh; (iterate 2 exact rfl); (first | decide | omega); exact rfl)
          | (apply kl; (iterate 2 exact rfl); (first | decide | omega); exact rfl)
          )
        | (apply LR.ev; (· apply Ev.add; (· exact rfl); (· exact rfl); (· first | omega | (dsimp only; omega)); (· first | omega | (dsimp only; omega))); (· exact rfl))
        | (apply LR.ev; (· apply Ev.rem; (· exact rfl); (· exact rfl); (· decide)); (· exact rfl))
        | (apply LR.ev; (· apply Ev.quo; (· exact rfl); (· exact rfl); (· decide)); (· exact rfl))
        | (refine LR.append rfl rfl (fun a' c' => Sel.tail _ (Sel.tail _ (Sel.head _ _ _))) (fun w' hw' => hw'.rd_of_blk (List.Mem.head _)) (by simp) rfl rfl (by omega) (by unfold maxLen; omega) rfl ?_; intro a2 c2)
        | ((first | (apply kR; (· exact rfl); (· exact rfl)) | (apply kQ; (· exact rfl))); all_goals (intro hc; try simp only [decide_eq_true_eq, decide_eq_false_iff_not, Bool.not_eq_true', Bool.not_eq_false', Bool.not_eq_true, Bool.not_eq_false, Bool.not_true, Bool.not_false, Int.not_lt, Int.not_le, List.cons.injEq, and_true, beq_iff_eq, beq_eq_false_iff_ne] at hc; try (exfalso; first | contradiction | omega)))
        )
      obtain ⟨k', rfl⟩ : ∃ k', k = k' + 1 := by
        cases k with
        | zero => simp at hy; omega
        | succ k' => exact ⟨k', rfl⟩
      apply At.again (k', y / 128, l' ++ [((y % 128 + 128 : Nat) : Int)], a2, c2)
      · refine ⟨?_, ?_, by show k' ≤ 8; omega, by show y / 128 ≤ _; omega⟩
        · show l ++ enc x.toNat = (l' ++ [_]) ++ encF k' (y / 128)
          rw [he, encF, if_neg hs, List.append_assoc]; rfl
        · show y / 128 < 128 ^ (k' + 1)
          rw [Nat.pow_succ] at hy; omega
      · (repeat (first | exact Out.refl _ _ | exact Out.mix | (apply Out.upd; (· exact rfl)) | (apply Out.updL; (· exact rfl)) | (apply Out.mixs; (· exact rfl))))
      · refine ⟨?_, trivial⟩
        show Value.int .i64 (IntKind.i64.wrap ((y : Int).tdiv 128)) = Value.int .i64 ((y / 128 : Nat) : Int)
        rw [Int.tdiv_eq_ediv_of_nonneg (by omega), wrap_i64 (by omega) (by omega)]
        rfl
      · intro w' hw'
        refine hw'.tail1.cast ?_
        have ho : IntKind.u8.wrap ((y : Int).tmod 128 + 128) = ((y % 128 + 128 : Nat) : Int) := by
          rw [Int.tmod_eq_emod_of_nonneg (by omega)]
          have : ((y : Int) % 128 + 128) = ((y % 128 + 128 : Nat) : Int) := by omega
          rw [this, wrap_u8]; congr 1; omega
        simp only [wr1, wr2, splice, ho, bv]
        simp
      · show k' < k' + 1; omega
  · repeat' (
      first
      | (
        first
        | (apply kp; iterate 2 exact rfl)
        | apply ja | apply jb | apply jg | apply jj | (apply je; exact rfl) | (apply jf; exact rfl) | apply jd | apply jh | apply ji | (apply jc; kernel_rfl) | apply jk | apply jl | apply jm | apply jn | apply jo | (apply jp; exact rfl) | apply jq | apply jr | apply js | apply jt | apply ju | apply jv | apply jw | apply kN | apply kM
        | (apply kf; iterate 2 exact rfl)
        | (apply ko; (· exact rfl); (· repeat (first | exact mH _ _ | apply mT)); iterate 2 exact rfl)
        | (apply ka; (· exact rfl); (· repeat (first | exact mH _ _ | apply mT)); iterate 2 exact rfl)
        | (apply kr; (· exact rfl); (· repeat (first | exact mH _ _ | apply mT)); iterate 3 exact rfl)
        | (apply ks; (· exact rfl); (· repeat (first | exact mH _ _ | apply mT)); iterate 2 exact rfl)
        | (apply kn; iterate 2 exact rfl)
        | (apply ke; iterate 2 exact rfl)
        | (apply kx; iterate 2 exact rfl)
        | (apply kc; iterate 2 exact rfl)
        | (apply kb; iterate 2 exact rfl)
        | (apply kg; iterate 2 exact rfl)
        | (apply kG; iterate 3 exact rfl)
        | (apply kB; (iterate 2 exact rfl); intro _)
        | (apply kA; exact rfl; intro _)
        | (apply kL; (iterate 3 exact rfl); (· repeat (first | exact BS.nil _ | (apply BS.int; exact rfl) | (apply BS.ptr; exact rfl) | (apply BS.slice; exact rfl) | (apply BS.agg; iterate 2 exact rfl))); intro _)
        | (apply kT; (iterate 2 exact rfl); (· repeat (first | exact sH _ _ _ | apply sT)); iterate 2 exact rfl)
        | (apply kS; (iterate 2 exact rfl); (· repeat (first | exact sH _ _ _ | apply sT)); exact rfl)
        | (apply kh; (iterate 2 exact rfl); (first | decide | omega); exact rfl)
        | (apply kl; (iterate 2 exact rfl); (first | decide | omega); exact rfl)
        )
      | ((first | (apply kR; (· exact rfl); (· exact rfl)) | (apply kQ; (· exact rfl))); all_goals (intro hc; try simp only [decide_eq_true_eq, decide_eq_false_iff_not, Bool.not_eq_true', Bool.not_eq_false', Bool.not_eq_true, Bool.not_eq_false, Bool.not_true, Bool.not_false, Int.not_lt, Int.not_le, List.cons.injEq, and_true, beq_iff_eq, beq_eq_false_iff_ne] at hc; try (exfalso; first | contradiction | omega)))
      )
    all_goals (
      (apply ret1; (· exact rfl); intro w' hS)
      have hp : putL x = [] := by unfold putL; rw [if_neg hx]
      have hq : putE x = 9 := by unfold putE; rw [if_neg hx]
      refine ⟨a, c, by rw [hq]; rfl, ?_⟩
      rw [hp, List.append_nil]
      exact wr_same hS)
end Go.Proofs.Ytomlgnncncjmaaa
