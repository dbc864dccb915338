/-
  Queues of the program.
-/
import Derived.Test.YtomlgnncncjmaaaA31
import Derived.Test.YtomlgnncncjmaaaHb15
-- all by hand
namespace Go.Proofs.Ytomlgnncncjmaaa
open Go.Hb
attribute [local irreducible] LR CW At Ev thn blk finK noG again CallsTo DW QL dnext TW DP
set_option linter.unusedSimpArgs false
set_option linter.unusedVariables false
set_option maxRecDepth 100000

structure MsgA where
  m : Msg
  a : Option Addr
  c : Nat
def MsgA.row (x : MsgA) : List Value := x.m.cells x.a x.c
theorem MsgA.row_len (x : MsgA) : x.row.length = 13 := rfl
def MsgA.body (x : MsgA) : Asrt := osl (.slice x.a x.m.body.length x.c) 5 1 x.m.body.length (bv x.m.body)
theorem MsgA.dep (x : MsgA) : x.body.dep := osl.dep _ _ _ _ _
theorem MsgA.ex (x : MsgA) : x.body.excl = true := rfl
def zeroA : MsgA := ⟨zeroMsg, none, 0⟩
def qcells (first many : Nat) (slots : List MsgA) : List Value := .bool true :: .int .i64 (first : Int) :: .int .i64 (many : Int) :: slots.flatMap MsgA.row
theorem qcells_len (first many : Nat) (slots : List MsgA) (h : slots.length = 32) : (qcells first many slots).length = 419 := by
  simp only [qcells, List.length_cons, Go.Hb.rows_len MsgA.row_len, h]
theorem qcells_row {first many : Nat} {slots : List MsgA} {k : Nat} (h : k < slots.length) {j : Nat} {v : Value} (hj : slots[k].row[j]? = some v) : (qcells first many slots)[3 + k * 13 + j]? = some v := by
  have := rows_get MsgA.row_len slots k j v h hj
  rw [show 3 + k * 13 + j = (k * 13 + j) + 1 + 1 + 1 by omega]
  simpa [qcells] using this
theorem flat_set (l : List MsgA) (x : MsgA) : ∀ (k : Nat), k < l.length → (l.set k x).flatMap MsgA.row = (l.flatMap MsgA.row).take (k * 13) ++ x.row ++ (l.flatMap MsgA.row).drop (k * 13 + 13) := by
  induction l with
  | nil => intro k h; simp at h
  | cons y r ih =>
    intro k h
    have hy : y.row.length = 13 := rfl
    cases k with
    | zero =>
      simp only [List.set_cons_zero, List.flatMap_cons, Nat.zero_mul, List.take_zero, List.nil_append, Nat.zero_add]
      rw [show 13 = y.row.length from rfl, List.drop_left]
    | succ k =>
      simp only [List.set_cons_succ, List.flatMap_cons]
      have e1 : (y.row ++ r.flatMap MsgA.row).take ((k + 1) * 13) = y.row ++ (r.flatMap MsgA.row).take (k * 13) := by
        rw [List.take_append, List.take_of_length_le (l := y.row) (by rw [hy]; omega), hy, show (k + 1) * 13 - 13 = k * 13 by omega]
      have e2 : (y.row ++ r.flatMap MsgA.row).drop ((k + 1) * 13 + 13) = (r.flatMap MsgA.row).drop (k * 13 + 13) := by
        rw [List.drop_append, List.drop_of_length_le (l := y.row) (by rw [hy]; omega), hy, show (k + 1) * 13 + 13 - 13 = k * 13 + 13 by omega, List.nil_append]
      rw [ih k (by simpa using h), e1, e2]
      simp
theorem splice_q (first many : Nat) (slots : List MsgA) (x : MsgA) (k : Nat) (h : k < slots.length) : splice (qcells first many slots) (3 + k * 13) x.row = qcells first many (slots.set k x) := by
  have h13 : x.row.length = 13 := rfl
  unfold splice qcells
  rw [flat_set slots x k h, h13]
  rw [show 3 + k * 13 = k * 13 + 1 + 1 + 1 by omega, show k * 13 + 1 + 1 + 1 + 13 = (k * 13 + 13) + 1 + 1 + 1 by omega]
  simp [List.take_succ_cons]
abbrev qB (b : Nat) (first many : Nat) (slots : List MsgA) : Asrt := .own b (.cells (qcells first many slots).toArray 82 (0, 0))
/-- The messages that wait, in the round. -/
structure QRep (first : Nat) (slots L : List MsgA) : Prop where
  h32 : slots.length = 32
  hf : first < 32
  hL : L.length ≤ 32
  at_ : ∀ i (h : i < L.length), slots[(first + i) % 32]? = some L[i]
abbrev bunB : List MsgA → Asrt := bun MsgA.body

def zeroQ : List Value := .bool false :: .int .i64 0 :: .int .i64 0 :: (List.replicate 32 zeroA).flatMap MsgA.row
theorem zero82 : Try.zeroCells82 = zeroQ.toArray := by kernel_rfl
instance : Build Try.prog 82 zeroQ [(0, 1), (1, 1), (2, 1), (3, 416)] := ⟨fun w parts cells h => by
  simp only [Instr.build, Sem.run_bind, Try.zeroValue82, run_underlying Try.underlying82, Result.andThen_ok]
  simp only [List.mapM_toArray, List.mapM_cons, List.mapM_nil, Sem.run_bind, Sem.run_map, Sem.run_pure, Result.andThen_ok, pure_bind, bind_assoc, map_eq_pure_bind, Try.sizeOf3, Try.sizeOf4, Try.sizeOf80, Value.cells]
  rw [zero82, h]
  rfl⟩
theorem c38 (w : World) : CallsTo Try.prog 38 [] w fun v w' => ∃ b, v = .pointer (some ⟨b, 0, none⟩) ∧ New1 (qB b 0 0 (List.replicate 32 zeroA)) w w' := by
  refine go_in (n := 3) (St.refl _ NoF) Try.func38 rfl rfl ?_
  repeat' (
    first
    | (refine LR.ev (d := 1) (v := .agg (qcells 0 0 (List.replicate 32 zeroA)).toArray) (Ev.build (T' := 82) (parts := [(0, .const (.bool true))]) (by kernel_rfl)) rfl ?_)
    | (
      first
      | (apply kp; iterate 2 exact rfl)
      | apply ja | apply jb | apply jg | apply jj | (apply je; exact rfl) | (apply jf; exact rfl) | apply jd | apply jh | apply ji | (apply jc; kernel_rfl) | apply jk | apply jl | apply jm | apply jn | apply jo | (apply jp; exact rfl) | apply jq | apply jr | apply js | apply jt | apply ju | apply jv | apply jw | apply kN | apply kM
      | (apply kf; iterate 2 exact rfl)
      | (apply ko; (· exact rfl); (· repeat (first | exact mH _ _ | apply mT)); iterate 2 exact rfl)
      | (apply ka; (· exact rfl); (· repeat (first | exact mH _ _ | apply mT)); iterate 2 exact rfl)
      | (apply kr; (· exact rfl); (· repeat (first | exact mH _ _ | apply mT)); iterate 3 exact rfl)
      | (apply ks; (· exact rfl); (· repeat (first | exact mH _ _ | apply mT)); iterate 2 exact rfl)
      | (apply kn; iterate 2 exact rfl)
      | (apply ke; iterate 2 exact rfl)
      | (apply kx; iterate 2 exact rfl)
      | (apply kc; iterate 2 exact rfl)
      | (apply kb; iterate 2 exact rfl)
      | (apply kg; iterate 2 exact rfl)
      | (apply kG; iterate 3 exact rfl)
      | (apply kB; (iterate 2 exact rfl); intro _)
      | (apply kA; exact rfl; intro _)
      | (apply kL; (iterate 3 exact rfl); (· repeat (first | exact BS.nil _ | (apply BS.int; exact rfl) | (apply BS.ptr; exact rfl) | (apply BS.slice; exact rfl) | (apply BS.agg; iterate 2 exact rfl))); intro _)
      | (apply kT; (iterate 2 exact rfl); (· repeat (first | exact sH _ _ _ | apply sT)); iterate 2 exact rfl)
      | (apply kS; (iterate 2 exact rfl); (· repeat (first | exact sH _ _ _ | apply sT)); exact rfl)
      | (apply kh; (iterate 2 exact rfl); (first | decide | omega); exact rfl)
      | (apply kl; (iterate 2 exact rfl); (first | decide | omega); exact rfl)
      )
    | ((first | (apply kR; (· exact rfl); (· exact rfl)) | (apply kQ; (· exact rfl))); all_goals (intro hc; try simp only [decide_eq_true_eq, decide_eq_false_iff_not, Bool.not_eq_true', Bool.not_eq_false', Bool.not_eq_true, Bool.not_eq_false, Bool.not_true, Bool.not_false, Int.not_lt, Int.not_le, List.cons.injEq, and_true, beq_iff_eq, beq_eq_false_iff_ne] at hc; try (exfalso; first | contradiction | omega)))
    )
  (apply ret1; (· exact rfl); intro w' hS)
  exact ⟨_, rfl, St.new1 hS rfl⟩
theorem c85 (b first many : Nat) (slots : List MsgA) (w : World) (h : Rd w (some ⟨b, 0, none⟩) (qcells first many slots)) : CallsTo Try.prog 85 [.pointer (some ⟨b, 0, none⟩)] w fun v w' => v = .bool false ∧ Grew w w' := by
  refine go_in (n := 12) (St.rd1 h) Try.func85 rfl rfl ?_
  repeat' (
    first
    | (
      first
      | (apply kp; iterate 2 exact rfl)
      | apply ja | apply jb | apply jg | apply jj | (apply je; exact rfl) | (apply jf; exact rfl) | apply jd | apply jh | apply ji | (apply jc; kernel_rfl) | apply jk | apply jl | apply jm | apply jn | apply jo | (apply jp; exact rfl) | apply jq | apply jr | apply js | apply jt | apply ju | apply jv | apply jw | apply kN | apply kM
      | (apply kf; iterate 2 exact rfl)
      | (apply ko; (· exact rfl); (· repeat (first | exact mH _ _ | apply mT)); iterate 2 exact rfl)
      | (apply ka; (· exact rfl); (· repeat (first | exact mH _ _ | apply mT)); iterate 2 exact rfl)
      | (apply kr; (· exact rfl); (· repeat (first | exact mH _ _ | apply mT)); iterate 3 exact rfl)
      | (apply ks; (· exact rfl); (· repeat (first | exact mH _ _ | apply mT)); iterate 2 exact rfl)
      | (apply kn; iterate 2 exact rfl)
      | (apply ke; iterate 2 exact rfl)
      | (apply kx; iterate 2 exact rfl)
      | (apply kc; iterate 2 exact rfl)
      | (apply kb; iterate 2 exact rfl)
      | (apply kg; iterate 2 exact rfl)
      | (apply kG; iterate 3 exact rfl)
      | (apply kB; (iterate 2 exact rfl); intro _)
      | (apply kA; exact rfl; intro _)
      | (apply kL; (iterate 3 exact rfl); (· repeat (first | exact BS.nil _ | (apply BS.int; exact rfl) | (apply BS.ptr; exact rfl) | (apply BS.slice; exact rfl) | (apply BS.agg; iterate 2 exact rfl))); intro _)
      | (apply kT; (iterate 2 exact rfl); (· repeat (first | exact sH _ _ _ | apply sT)); iterate 2 exact rfl)
      | (apply kS; (iterate 2 exact rfl); (· repeat (first | exact sH _ _ _ | apply sT)); exact rfl)
      | (apply kh; (iterate 2 exact rfl); (first | decide | omega); exact rfl)
      | (apply kl; (iterate 2 exact rfl); (first | decide | omega); exact rfl)
      )
    | ((first | (apply kR; (· exact rfl); (· exact rfl)) | (apply kQ; (· exact rfl))); all_goals (intro hc; try simp only [decide_eq_true_eq, decide_eq_false_iff_not, Bool.not_eq_true', Bool.not_eq_false', Bool.not_eq_true, Bool.not_eq_false, Bool.not_true, Bool.not_false, Int.not_lt, Int.not_le, List.cons.injEq, and_true, beq_iff_eq, beq_eq_false_iff_ne] at hc; try (exfalso; first | contradiction | omega)))
    )
  (apply ret1; (· exact rfl); intro w' hS)
  exact ⟨rfl, hS.toKeep⟩
theorem c46 (b first many : Nat) (slots : List MsgA) (w : World) (h : Rd w (some ⟨b, 0, none⟩) (qcells first many slots)) : CallsTo Try.prog 46 [.pointer (some ⟨b, 0, none⟩)] w fun v w' => v = .int .i64 (many : Int) ∧ Grew w w' := by
  refine go_in (n := 9) (St.rd1 h) Try.func46 rfl rfl ?_
  repeat' (
    first
    | (
      first
      | (apply kp; iterate 2 exact rfl)
      | apply ja | apply jb | apply jg | apply jj | (apply je; exact rfl) | (apply jf; exact rfl) | apply jd | apply jh | apply ji | (apply jc; kernel_rfl) | apply jk | apply jl | apply jm | apply jn | apply jo | (apply jp; exact rfl) | apply jq | apply jr | apply js | apply jt | apply ju | apply jv | apply jw | apply kN | apply kM
      | (apply kf; iterate 2 exact rfl)
      | (apply ko; (· exact rfl); (· repeat (first | exact mH _ _ | apply mT)); iterate 2 exact rfl)
      | (apply ka; (· exact rfl); (· repeat (first | exact mH _ _ | apply mT)); iterate 2 exact rfl)
      | (apply kr; (· exact rfl); (· repeat (first | exact mH _ _ | apply mT)); iterate 3 exact rfl)
      | (apply ks; (· exact rfl); (· repeat (first | exact mH _ _ | apply mT)); iterate 2 exact rfl)
      | (apply kn; iterate 2 exact rfl)
      | (apply ke; iterate 2 exact rfl)
      | (apply kx; iterate 2 exact rfl)
      | (apply kc; iterate 2 exact rfl)
      | (apply kb; iterate 2 exact rfl)
      | (apply kg; iterate 2 exact rfl)
      | (apply kG; iterate 3 exact rfl)
      | (apply kB; (iterate 2 exact rfl); intro _)
      | (apply kA; exact rfl; intro _)
      | (apply kL; (iterate 3 exact rfl); (· repeat (first | exact BS.nil _ | (apply BS.int; exact rfl) | (apply BS.ptr; exact rfl) | (apply BS.slice; exact rfl) | (apply BS.agg; iterate 2 exact rfl))); intro _)
      | (apply kT; (iterate 2 exact rfl); (· repeat (first | exact sH _ _ _ | apply sT)); iterate 2 exact rfl)
      | (apply kS; (iterate 2 exact rfl); (· repeat (first | exact sH _ _ _ | apply sT)); exact rfl)
      | (apply kh; (iterate 2 exact rfl); (first | decide | omega); exact rfl)
      | (apply kl; (iterate 2 exact rfl); (first | decide | omega); exact rfl)
      )
    | (apply kq; (· exact rfl); (· intro w1 h1; exact CallsTo.q (c85 b first many slots w1 (h1.rd_of (by (repeat (first | exact mH _ _ | apply mT))))) h1))
    | ((first | (apply kR; (· exact rfl); (· exact rfl)) | (apply kQ; (· exact rfl))); all_goals (intro hc; try simp only [decide_eq_true_eq, decide_eq_false_iff_not, Bool.not_eq_true', Bool.not_eq_false', Bool.not_eq_true, Bool.not_eq_false, Bool.not_true, Bool.not_false, Int.not_lt, Int.not_le, List.cons.injEq, and_true, beq_iff_eq, beq_eq_false_iff_ne] at hc; try (exfalso; first | contradiction | omega)))
    )
  (apply ret1; (· exact rfl); intro w' hS)
  exact ⟨rfl, hS.toKeep⟩
theorem c48 (b first many : Nat) (slots : List MsgA) (w : World) (h : Rd w (some ⟨b, 0, none⟩) (qcells first many slots)) (hm : many ≤ 32) : CallsTo Try.prog 48 [.pointer (some ⟨b, 0, none⟩)] w fun v w' => v = .int .i64 (32 - (many : Int)) ∧ Grew w w' := by
  refine go_in (n := 10) (St.rd1 h) Try.func48 rfl rfl ?_
  repeat' (
    first
    | (
      first
      | (apply kp; iterate 2 exact rfl)
      | apply ja | apply jb | apply jg | apply jj | (apply je; exact rfl) | (apply jf; exact rfl) | apply jd | apply jh | apply ji | (apply jc; kernel_rfl) | apply jk | apply jl | apply jm | apply jn | apply jo | (apply jp; exact rfl) | apply jq | apply jr | apply js | apply jt | apply ju | apply jv | apply jw | apply kN | apply kM
      | (apply kf; iterate 2 exact rfl)
      | (apply ko; (· exact rfl); (· repeat (first | exact mH _ _ | apply mT)); iterate 2 exact rfl)
      | (apply ka; (· exact rfl); (· repeat (first | exact mH _ _ | apply mT)); iterate 2 exact rfl)
      | (apply kr; (· exact rfl); (· repeat (first | exact mH _ _ | apply mT)); iterate 3 exact rfl)
      | (apply ks; (· exact rfl); (· repeat (first | exact mH _ _ | apply mT)); iterate 2 exact rfl)
      | (apply kn; iterate 2 exact rfl)
      | (apply ke; iterate 2 exact rfl)
      | (apply kx; iterate 2 exact rfl)
      | (apply kc; iterate 2 exact rfl)
      | (apply kb; iterate 2 exact rfl)
      | (apply kg; iterate 2 exact rfl)
      | (apply kG; iterate 3 exact rfl)
      | (apply kB; (iterate 2 exact rfl); intro _)
      | (apply kA; exact rfl; intro _)
      | (apply kL; (iterate 3 exact rfl); (· repeat (first | exact BS.nil _ | (apply BS.int; exact rfl) | (apply BS.ptr; exact rfl) | (apply BS.slice; exact rfl) | (apply BS.agg; iterate 2 exact rfl))); intro _)
      | (apply kT; (iterate 2 exact rfl); (· repeat (first | exact sH _ _ _ | apply sT)); iterate 2 exact rfl)
      | (apply kS; (iterate 2 exact rfl); (· repeat (first | exact sH _ _ _ | apply sT)); exact rfl)
      | (apply kh; (iterate 2 exact rfl); (first | decide | omega); exact rfl)
      | (apply kl; (iterate 2 exact rfl); (first | decide | omega); exact rfl)
      )
    | (apply kq; (· exact rfl); (· intro w1 h1; exact CallsTo.q (c85 b first many slots w1 (h1.rd_of (by (repeat (first | exact mH _ _ | apply mT))))) h1))
    | (apply LR.ev; (· apply Ev.sub; (· exact rfl); (· exact rfl); (· first | omega | (dsimp only; omega)); (· first | omega | (dsimp only; omega))); (· exact rfl))
    | ((first | (apply kR; (· exact rfl); (· exact rfl)) | (apply kQ; (· exact rfl))); all_goals (intro hc; try simp only [decide_eq_true_eq, decide_eq_false_iff_not, Bool.not_eq_true', Bool.not_eq_false', Bool.not_eq_true, Bool.not_eq_false, Bool.not_true, Bool.not_false, Int.not_lt, Int.not_le, List.cons.injEq, and_true, beq_iff_eq, beq_eq_false_iff_ne] at hc; try (exfalso; first | contradiction | omega)))
    )
  (apply ret1; (· exact rfl); intro w' hS)
  exact ⟨rfl, hS.toKeep⟩
end Go.Proofs.Ytomlgnncncjmaaa
