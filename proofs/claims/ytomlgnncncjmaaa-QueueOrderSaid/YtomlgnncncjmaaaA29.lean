/-
  Data that are sent again: Old, Inner, both; SameData; Bring.
-/
import Derived.Test.YtomlgnncncjmaaaA28
-- all by hand
namespace Go.Proofs.Ytomlgnncncjmaaa
open Go.Hb
attribute [local irreducible] LR CW At Ev thn blk finK noG again CallsTo DW QL dnext
set_option linter.unusedSimpArgs false
set_option linter.unusedVariables false
set_option maxRecDepth 100000

def bring (i n : Int) : Int := if n ≤ 0 then 0 else if i.tmod n < 0 then i.tmod n + n else i.tmod n
theorem tmod_bd (i n : Int) (h : 0 < n) : -n < i.tmod n ∧ i.tmod n < n := by
  have h1 := Int.tmod_lt_of_pos i h
  have h2 := Int.tmod_lt_of_pos (-i) h
  rw [Int.neg_tmod] at h2
  omega
theorem bring_bd (i n : Int) (h : 0 < n) : 0 ≤ bring i n ∧ bring i n < n := by
  have := tmod_bd i n h
  unfold bring; rw [if_neg (by omega)]; split <;> omega
theorem c31 (i n : Int) (w : World) (hn : n ≤ 9223372036854775807) : CallsTo Try.prog 31 [.int .i64 i, .int .i64 n] w fun v w' => v = .int .i64 (bring i n) ∧ Grew w w' := by
  refine go_in (n := 16) (St.refl _ NoF) Try.func31 rfl rfl ?_
  by_cases h : n ≤ 0
  · repeat' (
      first
      | (
        first
        | (apply kp; iterate 2 exact rfl)
        | apply ja | apply jb | apply jg | apply jj | (apply je; exact rfl) | (apply jf; exact rfl) | apply jd | apply jh | apply ji | (apply jc; kernel_rfl) | apply jk | apply jl | apply jm | apply jn | apply jo | (apply jp; exact rfl) | apply jq | apply jr | apply js | apply jt | apply ju | apply jv | apply jw | apply kN | apply kM
        | (apply kf; iterate 2 exact rfl)
        | (apply ko; (· exact rfl); (· repeat (first | exact mH _ _ | apply mT)); iterate 2 exact rfl)
        | (apply ka; (· exact rfl); (· repeat (first | exact mH _ _ | apply mT)); iterate 2 exact rfl)
        | (apply kr; (· exact rfl); (· repeat (first | exact mH _ _ | apply mT)); iterate 3 exact rfl)
        | (apply ks; (· exact rfl); (· repeat (first | exact mH _ _ | apply mT)); iterate 2 exact rfl)
        | (apply kn; iterate 2 exact rfl)
        | (apply ke; iterate 2 exact rfl)
        | (apply kx; iterate 2 exact rfl)
        | (apply kc; iterate 2 exact rfl)
        | (apply kb; iterate 2 exact rfl)
        | (apply kg; iterate 2 exact rfl)
        | (apply kG; iterate 3 exact rfl)
        | (apply kB; (iterate 2 exact rfl); intro _)
        | (apply kA; exact rfl; intro _)
        | (apply kL; (iterate 3 exact rfl); (· repeat (first | exact BS.nil _ | (apply BS.int; exact rfl) | (apply BS.ptr; exact rfl) | (apply BS.slice; exact rfl) | (apply BS.agg; iterate 2 exact rfl))); intro _)
        | (apply kT; (iterate 2 exact rfl); (· repeat (first | exact sH _ _ _ | apply sT)); iterate 2 exact rfl)
        | (apply kS; (iterate 2 exact rfl); (· repeat (first | exact sH _ _ _ | apply sT)); exact rfl)
        | (apply kh; (iterate 2 exact rfl); (first | decide | omega); exact rfl)
        | (apply kl; (iterate 2 exact rfl); (first | decide | omega); exact rfl)
        )
      | ((first | (apply kR; (· exact rfl); (· exact rfl)) | (apply kQ; (· exact rfl))); all_goals (intro hc; try simp only [decide_eq_true_eq, decide_eq_false_iff_not, Bool.not_eq_true', Bool.not_eq_false', Bool.not_eq_true, Bool.not_eq_false, Bool.not_true, Bool.not_false, Int.not_lt, Int.not_le, List.cons.injEq, and_true, beq_iff_eq, beq_eq_false_iff_ne] at hc; try (exfalso; first | contradiction | omega)))
      )
    (apply ret1; (· exact rfl); intro w' hS)
    exact ⟨congrArg (Value.int .i64) (by unfold bring; rw [if_pos h]), hS⟩
  · have hb := tmod_bd i n (by omega)
    repeat' (
      first
      | (
        first
        | (apply kp; iterate 2 exact rfl)
        | apply ja | apply jb | apply jg | apply jj | (apply je; exact rfl) | (apply jf; exact rfl) | apply jd | apply jh | apply ji | (apply jc; kernel_rfl) | apply jk | apply jl | apply jm | apply jn | apply jo | (apply jp; exact rfl) | apply jq | apply jr | apply js | apply jt | apply ju | apply jv | apply jw | apply kN | apply kM
        | (apply kf; iterate 2 exact rfl)
        | (apply ko; (· exact rfl); (· repeat (first | exact mH _ _ | apply mT)); iterate 2 exact rfl)
        | (apply ka; (· exact rfl); (· repeat (first | exact mH _ _ | apply mT)); iterate 2 exact rfl)
        | (apply kr; (· exact rfl); (· repeat (first | exact mH _ _ | apply mT)); iterate 3 exact rfl)
        | (apply ks; (· exact rfl); (· repeat (first | exact mH _ _ | apply mT)); iterate 2 exact rfl)
        | (apply kn; iterate 2 exact rfl)
        | (apply ke; iterate 2 exact rfl)
        | (apply kx; iterate 2 exact rfl)
        | (apply kc; iterate 2 exact rfl)
        | (apply kb; iterate 2 exact rfl)
        | (apply kg; iterate 2 exact rfl)
        | (apply kG; iterate 3 exact rfl)
        | (apply kB; (iterate 2 exact rfl); intro _)
        | (apply kA; exact rfl; intro _)
        | (apply kL; (iterate 3 exact rfl); (· repeat (first | exact BS.nil _ | (apply BS.int; exact rfl) | (apply BS.ptr; exact rfl) | (apply BS.slice; exact rfl) | (apply BS.agg; iterate 2 exact rfl))); intro _)
        | (apply kT; (iterate 2 exact rfl); (· repeat (first | exact sH _ _ _ | apply sT)); iterate 2 exact rfl)
        | (apply kS; (iterate 2 exact rfl); (· repeat (first | exact sH _ _ _ | apply sT)); exact rfl)
        | (apply kh; (iterate 2 exact rfl); (first | decide | omega); exact rfl)
        | (apply kl; (iterate 2 exact rfl); (first | decide | omega); exact rfl)
        )
      | (apply LR.ev; (· apply Ev.rem; (· exact rfl); (· exact rfl); (· first | decide | omega)); (· exact rfl))
      | (apply LR.ev; (· apply Ev.add; (· exact rfl); (· exact rfl); (· first | omega | (dsimp only; omega)); (· first | omega | (dsimp only; omega))); (· exact rfl))
      | ((first | (apply kR; (· exact rfl); (· exact rfl)) | (apply kQ; (· exact rfl))); all_goals (intro hc; try simp only [decide_eq_true_eq, decide_eq_false_iff_not, Bool.not_eq_true', Bool.not_eq_false', Bool.not_eq_true, Bool.not_eq_false, Bool.not_true, Bool.not_false, Int.not_lt, Int.not_le, List.cons.injEq, and_true, beq_iff_eq, beq_eq_false_iff_ne] at hc; try (exfalso; first | contradiction | omega)))
      )
    all_goals (
      (apply ret1; (· exact rfl); intro w' hS)
      refine ⟨congrArg (Value.int .i64) ?_, hS⟩
      unfold bring; rw [if_neg h]
      first | rw [if_pos (by omega)] | rw [if_neg (by omega)])

theorem pack_snd (m : Msg) : (pack m).2 = check m := by
  unfold pack
  split
  · rfl
  · rename_i h; simp only [ne_eq, Decidable.not_not] at h; exact h.symm
structure Dat where
  rseq : Int
  rrep : Int
  seq : Int
  sender : Int
  stamp : Int
  msg : Msg
def Dat.cells (d : Dat) (a : Option Addr) (c : Nat) : List Value := .int .i64 d.rseq :: .int .i64 d.rrep :: .int .i64 d.seq :: .int .i64 d.sender :: .int .i64 d.stamp :: d.msg.cells a c
def Dat.val (d : Dat) (a : Option Addr) (c : Nat) : Value := .agg (d.cells a c).toArray
def zeroDat : Dat := ⟨0, 0, 0, 0, 0, zeroMsg⟩
def mayOld (d : Dat) : Bool := decide (¬ (d.rseq = 0 ∧ d.rrep = 0) ∧ ringE d.rseq d.rrep = 0 ∧ 1 ≤ d.seq ∧ d.seq ≤ 9007199254740991 ∧ 1 ≤ d.sender ∧ d.sender ≤ 8 ∧ 0 ≤ d.stamp ∧ d.stamp ≤ 9007199254740991)
def oldM (d : Dat) : Msg := ⟨5, d.sender, 0, d.sender, 0, 0, 0, false, d.stamp, d.rseq, d.rrep, d.seq, bytesM d.msg⟩
def old (d : Dat) : Msg × Int := if mayOld d = true ∧ check d.msg = 0 ∧ d.msg.kind ≠ 5 then (oldM d, 0) else (zeroMsg, 2)
def innerD (m : Msg) : Dat := ⟨m.rseq, m.rrep, m.kseq, m.id, m.stamp, (unpack m.body).1⟩
def inner (m : Msg) : Dat × Int := if check m = 0 ∧ m.kind = 5 then (innerD m, 0) else (zeroDat, 2)
theorem check_old {m : Msg} (h : check m = 0) (hk : m.kind = 5) : plainB m = true ∧ 1 ≤ m.id ∧ m.id ≤ 8 ∧ ¬ (m.rseq = 0 ∧ m.rrep = 0) ∧ 0 < m.kseq ∧ (unpack m.body).2 = 0 ∧ (unpack m.body).1.kind ≠ 5 := by
  have h2 := (check_ok h).2
  unfold mayB at h2
  simp only [Bool.and_eq_true] at h2
  have h3 := h2.2
  unfold kindB at h3
  rw [hk] at h3
  simp only [show ¬ ((5 : Int) = 1) by omega, show ¬ ((5 : Int) = 2) by omega, show ¬ ((5 : Int) = 3) by omega, show ¬ ((5 : Int) = 4) by omega, if_false, if_true] at h3
  unfold oldB at h3
  simp only [Bool.and_eq_true, decide_eq_true_eq] at h3
  exact ⟨h3.1, h3.2⟩

set_option maxHeartbeats 4000000 in
theorem c32 (d : Dat) (a : Option Addr) (c : Nat) (w : World) (hr : Rd w a (bv d.msg.body)) (hz : a = none → c = 0) (hm : d.msg.body.length ≤ 140737488355328) (hb : Byt d.msg.body) :
    CallsTo Try.prog 32 [d.val a c] w fun v w' => ∃ a2 c2, v = .tuple [(old d).1.val a2 c2, .int .i64 (old d).2].toArray ∧ NewSl w w' (.slice a2 (old d).1.body.length c2) 5 1 (old d).1.body.length (bv (old d).1.body) := by
  refine go_in (n := 64) (St.rd1 hr) Try.func32 rfl rfl ?_
  have nils : ∀ w', Grew w w' → NewSl w w' (.slice none 0 0) 5 1 0 (bv []) := fun w' hg => ⟨hg, World.ownsRow_nil _ _ _ _⟩
  repeat' (
    first
    | (
      first
      | (apply kp; iterate 2 exact rfl)
      | apply ja | apply jb | apply jg | apply jj | (apply je; exact rfl) | (apply jf; exact rfl) | apply jd | apply jh | apply ji | (apply jc; kernel_rfl) | apply jk | apply jl | apply jm | apply jn | apply jo | (apply jp; exact rfl) | apply jq | apply jr | apply js | apply jt | apply ju | apply jv | apply jw | apply kN | apply kM
      | (apply kf; iterate 2 exact rfl)
      | (apply ko; (· exact rfl); (· repeat (first | exact mH _ _ | apply mT)); iterate 2 exact rfl)
      | (apply ka; (· exact rfl); (· repeat (first | exact mH _ _ | apply mT)); iterate 2 exact rfl)
      | (apply kr; (· exact rfl); (· repeat (first | exact mH _ _ | apply mT)); iterate 3 exact rfl)
      | (apply ks; (· exact rfl); (· repeat (first | exact mH _ _ | apply mT)); iterate 2 exact rfl)
      | (apply kn; iterate 2 exact rfl)
      | (apply ke; iterate 2 exact rfl)
      | (apply kx; iterate 2 exact rfl)
      | (apply kc; iterate 2 exact rfl)
      | (apply kb; iterate 2 exact rfl)
      | (apply kg; iterate 2 exact rfl)
      | (apply kG; iterate 3 exact rfl)
      | (apply kB; (iterate 2 exact rfl); intro _)
      | (apply kA; exact rfl; intro _)
      | (apply kL; (iterate 3 exact rfl); (· repeat (first | exact BS.nil _ | (apply BS.int; exact rfl) | (apply BS.ptr; exact rfl) | (apply BS.slice; exact rfl) | (apply BS.agg; iterate 2 exact rfl))); intro _)
      | (apply kT; (iterate 2 exact rfl); (· repeat (first | exact sH _ _ _ | apply sT)); iterate 2 exact rfl)
      | (apply kS; (iterate 2 exact rfl); (· repeat (first | exact sH _ _ _ | apply sT)); exact rfl)
      | (apply kh; (iterate 2 exact rfl); (first | decide | omega); exact rfl)
      | (apply kl; (iterate 2 exact rfl); (first | decide | omega); exact rfl)
      )
    | (apply kq; (· exact rfl); (· intro w1 h1; exact CallsTo.q (c81 _ _ w1) h1))
    | (apply kq; (· exact rfl); (· intro w1 h1; exact CallsTo.q (c59 _ _ _ w1) h1))
    | ((first | (apply kR; (· exact rfl); (· exact rfl)) | (apply kQ; (· exact rfl))); all_goals (intro hc; try simp only [decide_eq_true_eq, decide_eq_false_iff_not, Bool.not_eq_true', Bool.not_eq_false', Bool.not_eq_true, Bool.not_eq_false, Bool.not_true, Bool.not_false, Int.not_lt, Int.not_le, List.cons.injEq, and_true, beq_iff_eq, beq_eq_false_iff_ne] at hc; try (exfalso; first | contradiction | omega)))
    )
  all_goals (
    apply LR.call
    · exact rfl
    intro w1 h1
    refine CallsTo.mono (show CallsTo Try.prog 15 [d.msg.val a c] w1 _ from c15 d.msg a c w1 (h1.rd_of (by (repeat (first | exact mH _ _ | apply mT)))) hz hm hb) ?_
    rintro v w2 ⟨a1, c1, rfl, hn⟩
    refine LR.back (h1.newSl hn) ?_
    clear hn h1
    repeat' (
      first
      | (
        first
        | (apply kp; iterate 2 exact rfl)
        | apply ja | apply jb | apply jg | apply jj | (apply je; exact rfl) | (apply jf; exact rfl) | apply jd | apply jh | apply ji | (apply jc; kernel_rfl) | apply jk | apply jl | apply jm | apply jn | apply jo | (apply jp; exact rfl) | apply jq | apply jr | apply js | apply jt | apply ju | apply jv | apply jw | apply kN | apply kM
        | (apply kf; iterate 2 exact rfl)
        | (apply ko; (· exact rfl); (· repeat (first | exact mH _ _ | apply mT)); iterate 2 exact rfl)
        | (apply ka; (· exact rfl); (· repeat (first | exact mH _ _ | apply mT)); iterate 2 exact rfl)
        | (apply kr; (· exact rfl); (· repeat (first | exact mH _ _ | apply mT)); iterate 3 exact rfl)
        | (apply ks; (· exact rfl); (· repeat (first | exact mH _ _ | apply mT)); iterate 2 exact rfl)
        | (apply kn; iterate 2 exact rfl)
        | (apply ke; iterate 2 exact rfl)
        | (apply kx; iterate 2 exact rfl)
        | (apply kc; iterate 2 exact rfl)
        | (apply kb; iterate 2 exact rfl)
        | (apply kg; iterate 2 exact rfl)
        | (apply kG; iterate 3 exact rfl)
        | (apply kB; (iterate 2 exact rfl); intro _)
        | (apply kA; exact rfl; intro _)
        | (apply kL; (iterate 3 exact rfl); (· repeat (first | exact BS.nil _ | (apply BS.int; exact rfl) | (apply BS.ptr; exact rfl) | (apply BS.slice; exact rfl) | (apply BS.agg; iterate 2 exact rfl))); intro _)
        | (apply kT; (iterate 2 exact rfl); (· repeat (first | exact sH _ _ _ | apply sT)); iterate 2 exact rfl)
        | (apply kS; (iterate 2 exact rfl); (· repeat (first | exact sH _ _ _ | apply sT)); exact rfl)
        | (apply kh; (iterate 2 exact rfl); (first | decide | omega); exact rfl)
        | (apply kl; (iterate 2 exact rfl); (first | decide | omega); exact rfl)
        )
      | ((first | (apply kR; (· exact rfl); (· exact rfl)) | (apply kQ; (· exact rfl))); all_goals (intro hc; try simp only [decide_eq_true_eq, decide_eq_false_iff_not, Bool.not_eq_true', Bool.not_eq_false', Bool.not_eq_true, Bool.not_eq_false, Bool.not_true, Bool.not_false, Int.not_lt, Int.not_le, List.cons.injEq, and_true, beq_iff_eq, beq_eq_false_iff_ne] at hc; try (exfalso; first | contradiction | omega)))
      )
    all_goals (
      first
      | (have e : old d = (zeroMsg, 2) := by clear nils; unfold old; rw [if_neg (by simp_all [mayOld, withinB_iff, pack_snd] <;> (intros; omega))]
         (apply ret2c; (· exact rfl); (· exact inferInstance); (· exact rfl); (· (repeat (first | exact List.Mem.head _ | apply List.Mem.tail))); (· exact rfl); intro w' hS)
         rw [e]
         exact ⟨none, 0, rfl, nils w' hS.toKeep⟩)
      | (rename (pack d.msg).2 = 0 => hp
         obtain ⟨hck, ep⟩ := pack_ok hp
         have e : old d = (oldM d, 0) := by clear nils; unfold old; rw [if_pos (by simp_all [mayOld, withinB_iff])]
         (apply ret2c; (· exact rfl); (· exact inferInstance); (· exact rfl); (· (repeat (first | exact List.Mem.head _ | apply List.Mem.tail))); (· exact rfl); intro w' hS)
         rw [e]
         rw [ep] at hS
         refine ⟨a1, c1, ?_, hS.toNew (mH _ _)⟩
         rw [ep]
         rfl)))
theorem zeroD_val : Value.agg [.int .i64 0, .int .i64 0, .int .i64 0, .int .i64 0, .int .i64 0, .int .i64 0, .int .i64 0, .int .i64 0, .int .i64 0, .int .i64 0, .int .i64 0, .int .i64 0, .bool false, .int .i64 0, .int .i64 0, .int .i64 0, .int .i64 0, .slice none 0 0].toArray = zeroDat.val none 0 := rfl

set_option maxHeartbeats 4000000 in
theorem c33 (m : Msg) (a : Option Addr) (c : Nat) (w : World) (hr : Rd w a (bv m.body)) (hz : a = none → c = 0) (hm : m.body.length ≤ 140737488355328) (hb : Byt m.body) :
    CallsTo Try.prog 33 [m.val a c] w fun v w' => ∃ a2 c2, v = .tuple [(inner m).1.val a2 c2, .int .i64 (inner m).2].toArray ∧ NewSl w w' (.slice a2 (inner m).1.msg.body.length c2) 5 1 (inner m).1.msg.body.length (bv (inner m).1.msg.body) := by
  refine go_in (n := 37) (St.rd1 hr) Try.func33 rfl rfl ?_
  have nils : ∀ w', Grew w w' → NewSl w w' (.slice none 0 0) 5 1 0 (bv []) := fun w' hg => ⟨hg, World.ownsRow_nil _ _ _ _⟩
  repeat' (
    first
    | (
      first
      | (apply kp; iterate 2 exact rfl)
      | apply ja | apply jb | apply jg | apply jj | (apply je; exact rfl) | (apply jf; exact rfl) | apply jd | apply jh | apply ji | (apply jc; kernel_rfl) | apply jk | apply jl | apply jm | apply jn | apply jo | (apply jp; exact rfl) | apply jq | apply jr | apply js | apply jt | apply ju | apply jv | apply jw | apply kN | apply kM
      | (apply kf; iterate 2 exact rfl)
      | (apply ko; (· exact rfl); (· repeat (first | exact mH _ _ | apply mT)); iterate 2 exact rfl)
      | (apply ka; (· exact rfl); (· repeat (first | exact mH _ _ | apply mT)); iterate 2 exact rfl)
      | (apply kr; (· exact rfl); (· repeat (first | exact mH _ _ | apply mT)); iterate 3 exact rfl)
      | (apply ks; (· exact rfl); (· repeat (first | exact mH _ _ | apply mT)); iterate 2 exact rfl)
      | (apply kn; iterate 2 exact rfl)
      | (apply ke; iterate 2 exact rfl)
      | (apply kx; iterate 2 exact rfl)
      | (apply kc; iterate 2 exact rfl)
      | (apply kb; iterate 2 exact rfl)
      | (apply kg; iterate 2 exact rfl)
      | (apply kG; iterate 3 exact rfl)
      | (apply kB; (iterate 2 exact rfl); intro _)
      | (apply kA; exact rfl; intro _)
      | (apply kL; (iterate 3 exact rfl); (· repeat (first | exact BS.nil _ | (apply BS.int; exact rfl) | (apply BS.ptr; exact rfl) | (apply BS.slice; exact rfl) | (apply BS.agg; iterate 2 exact rfl))); intro _)
      | (apply kT; (iterate 2 exact rfl); (· repeat (first | exact sH _ _ _ | apply sT)); iterate 2 exact rfl)
      | (apply kS; (iterate 2 exact rfl); (· repeat (first | exact sH _ _ _ | apply sT)); exact rfl)
      | (apply kh; (iterate 2 exact rfl); (first | decide | omega); exact rfl)
      | (apply kl; (iterate 2 exact rfl); (first | decide | omega); exact rfl)
      )
    | (apply kq; (· exact rfl); (· intro w1 h1; have hq := CallsTo.q (d17 m a c w1 (h1.rd_of (by (repeat (first | exact mH _ _ | apply mT)))) hz hm hb) h1; show CallsTo Try.prog 17 [m.val a c] w1 _; exact hq))
    | ((first | (apply kR; (· exact rfl); (· exact rfl)) | (apply kQ; (· exact rfl))); all_goals (intro hc; try simp only [decide_eq_true_eq, decide_eq_false_iff_not, Bool.not_eq_true', Bool.not_eq_false', Bool.not_eq_true, Bool.not_eq_false, Bool.not_true, Bool.not_false, Int.not_lt, Int.not_le, List.cons.injEq, and_true, beq_iff_eq, beq_eq_false_iff_ne] at hc; try (exfalso; first | contradiction | omega)))
    )
  rotate_right
  · rename check m = 0 => hck
    rename m.kind = 5 => hk
    have hko := check_old hck hk
    have e : inner m = (innerD m, 0) := by unfold inner; rw [if_pos ⟨hck, hk⟩]
    apply LR.call
    · exact rfl
    intro w1 h1
    refine (d23 a c m.body w1 (h1.rd_of (by (repeat (first | exact mH _ _ | apply mT)))) hz hm hb).mono ?_
    rintro v w2 ⟨a1, c1, rfl, hn⟩
    refine LR.back (h1.newSl hn) ?_
    clear hn h1
    repeat' (
      first
      | (
        first
        | (apply kp; iterate 2 exact rfl)
        | apply ja | apply jb | apply jg | apply jj | (apply je; exact rfl) | (apply jf; exact rfl) | apply jd | apply jh | apply ji | (apply jc; kernel_rfl) | apply jk | apply jl | apply jm | apply jn | apply jo | (apply jp; exact rfl) | apply jq | apply jr | apply js | apply jt | apply ju | apply jv | apply jw | apply kN | apply kM
        | (apply kf; iterate 2 exact rfl)
        | (apply ko; (· exact rfl); (· repeat (first | exact mH _ _ | apply mT)); iterate 2 exact rfl)
        | (apply ka; (· exact rfl); (· repeat (first | exact mH _ _ | apply mT)); iterate 2 exact rfl)
        | (apply kr; (· exact rfl); (· repeat (first | exact mH _ _ | apply mT)); iterate 3 exact rfl)
        | (apply ks; (· exact rfl); (· repeat (first | exact mH _ _ | apply mT)); iterate 2 exact rfl)
        | (apply kn; iterate 2 exact rfl)
        | (apply ke; iterate 2 exact rfl)
        | (apply kx; iterate 2 exact rfl)
        | (apply kc; iterate 2 exact rfl)
        | (apply kb; iterate 2 exact rfl)
        | (apply kg; iterate 2 exact rfl)
        | (apply kG; iterate 3 exact rfl)
        | (apply kB; (iterate 2 exact rfl); intro _)
        | (apply kA; exact rfl; intro _)
        | (apply kL; (iterate 3 exact rfl); (· repeat (first | exact BS.nil _ | (apply BS.int; exact rfl) | (apply BS.ptr; exact rfl) | (apply BS.slice; exact rfl) | (apply BS.agg; iterate 2 exact rfl))); intro _)
        | (apply kT; (iterate 2 exact rfl); (· repeat (first | exact sH _ _ _ | apply sT)); iterate 2 exact rfl)
        | (apply kS; (iterate 2 exact rfl); (· repeat (first | exact sH _ _ _ | apply sT)); exact rfl)
        | (apply kh; (iterate 2 exact rfl); (first | decide | omega); exact rfl)
        | (apply kl; (iterate 2 exact rfl); (first | decide | omega); exact rfl)
        )
      | ((first | (apply kR; (· exact rfl); (· exact rfl)) | (apply kQ; (· exact rfl))); all_goals (intro hc; try simp only [decide_eq_true_eq, decide_eq_false_iff_not, Bool.not_eq_true', Bool.not_eq_false', Bool.not_eq_true, Bool.not_eq_false, Bool.not_true, Bool.not_false, Int.not_lt, Int.not_le, List.cons.injEq, and_true, beq_iff_eq, beq_eq_false_iff_ne] at hc; try (exfalso; first | contradiction | omega)))
      )
    (apply ret2c; (· exact rfl); (· exact inferInstance); (· exact rfl); (· (repeat (first | exact List.Mem.head _ | apply List.Mem.tail))); (· exact rfl); intro w' hS)
    rw [e]
    exact ⟨a1, c1, rfl, hS.toNew (by (repeat (first | exact mH _ _ | apply mT)))⟩
  all_goals (
    (apply ret2c; (· exact rfl); (· exact inferInstance); (· exact rfl); (· (repeat (first | exact List.Mem.head _ | apply List.Mem.tail))); (· exact rfl); intro w' hS)
    have e : inner m = (zeroDat, 2) := by unfold inner; rw [if_neg (by simp_all)]
    rw [e]
    exact ⟨none, 0, rfl, nils w' hS.toKeep⟩)

set_option maxHeartbeats 4000000 in
theorem c82 (d : Dat) (a : Option Addr) (c : Nat) (w : World) (hr : Rd w a (bv d.msg.body)) (hz : a = none → c = 0) (hm : d.msg.body.length ≤ 140737488355328) (hb : Byt d.msg.body) :
    CallsTo Try.prog 82 [d.val a c] w fun v w' => ∃ a2 c2, v = .tuple [(old d).1.val a2 c2, .int .i64 (old d).2].toArray ∧ NewSl w w' (.slice a2 (old d).1.body.length c2) 5 1 (old d).1.body.length (bv (old d).1.body) := by
  refine go_in (n := 65) (St.rd1 hr) Try.func82 rfl rfl ?_
  have nils : ∀ w', Grew w w' → NewSl w w' (.slice none 0 0) 5 1 0 (bv []) := fun w' hg => ⟨hg, World.ownsRow_nil _ _ _ _⟩
  repeat' (
    first
    | (apply CW.reg_held (St w NoF [.own _ (.cells (d.cells a c).toArray 50 (0, 0)), rdA a (bv d.msg.body)]))
    | (
      first
      | (apply kp; iterate 2 exact rfl)
      | apply ja | apply jb | apply jg | apply jj | (apply je; exact rfl) | (apply jf; exact rfl) | apply jd | apply jh | apply ji | (apply jc; kernel_rfl) | apply jk | apply jl | apply jm | apply jn | apply jo | (apply jp; exact rfl) | apply jq | apply jr | apply js | apply jt | apply ju | apply jv | apply jw | apply kN | apply kM
      | (apply kf; iterate 2 exact rfl)
      | (apply ko; (· exact rfl); (· repeat (first | exact mH _ _ | apply mT)); iterate 2 exact rfl)
      | (apply ka; (· exact rfl); (· repeat (first | exact mH _ _ | apply mT)); iterate 2 exact rfl)
      | (apply kr; (· exact rfl); (· repeat (first | exact mH _ _ | apply mT)); iterate 3 exact rfl)
      | (apply ks; (· exact rfl); (· repeat (first | exact mH _ _ | apply mT)); iterate 2 exact rfl)
      | (apply kn; iterate 2 exact rfl)
      | (apply ke; iterate 2 exact rfl)
      | (apply kx; iterate 2 exact rfl)
      | (apply kc; iterate 2 exact rfl)
      | (apply kb; iterate 2 exact rfl)
      | (apply kg; iterate 2 exact rfl)
      | (apply kG; iterate 3 exact rfl)
      | (apply kB; (iterate 2 exact rfl); intro _)
      | (apply kA; exact rfl; intro _)
      | (apply kL; (iterate 3 exact rfl); (· repeat (first | exact BS.nil _ | (apply BS.int; exact rfl) | (apply BS.ptr; exact rfl) | (apply BS.slice; exact rfl) | (apply BS.agg; iterate 2 exact rfl))); intro _)
      | (apply kT; (iterate 2 exact rfl); (· repeat (first | exact sH _ _ _ | apply sT)); iterate 2 exact rfl)
      | (apply kS; (iterate 2 exact rfl); (· repeat (first | exact sH _ _ _ | apply sT)); exact rfl)
      | (apply kh; (iterate 2 exact rfl); (first | decide | omega); exact rfl)
      | (apply kl; (iterate 2 exact rfl); (first | decide | omega); exact rfl)
      )
    | (apply kq; (· exact rfl); (· intro w1 h1; exact CallsTo.q (c97 _ _ w1) h1))
    | (apply kq; (· exact rfl); (· intro w1 h1; exact CallsTo.q (c61 _ w1) h1))
    | (apply kq; (· exact rfl); (· intro w1 h1; exact CallsTo.q (c62 _ w1) h1))
    | (apply kq; (· exact rfl); (· intro w1 h1; have hq := CallsTo.q (d18 d.msg a c w1 (h1.rd_of (by (repeat (first | exact mH _ _ | apply mT)))) hz hm hb) h1; show CallsTo Try.prog 18 [d.msg.val a c] w1 _; exact hq))
    | ((first | (apply kR; (· exact rfl); (· exact rfl)) | (apply kQ; (· exact rfl))); all_goals (intro hc; try simp only [decide_eq_true_eq, decide_eq_false_iff_not, Bool.not_eq_true', Bool.not_eq_false', Bool.not_eq_true, Bool.not_eq_false, Bool.not_true, Bool.not_false, Int.not_lt, Int.not_le, List.cons.injEq, and_true, beq_iff_eq, beq_eq_false_iff_ne] at hc; try (exfalso; first | contradiction | omega)))
    )
  rotate_right 2
  · rename check d.msg = 0 => hck
    rename ¬ d.msg.kind = 5 => hk
    have e : old d = (oldM d, 0) := by unfold old; rw [if_pos (by simp_all [mayOld, withinB_iff, numB_iff])]
    apply DW.quiet [0, 1, 2, 3, 4, 5, 6, 7, 8, 9, 10, 11, 12]
    · decide +kernel
    · first | exact fun _ h => h | exact fun _ h => St.sub h (by repeat (first | exact List.Sublist.refl _ | apply List.Sublist.cons))
    repeat' (
      first
      | (apply yp; iterate 3 exact rfl)
      | (apply QL.ev; exact rfl
         · first
           | (apply Ev.load_own; (· exact rfl); (· repeat (first | exact mH _ _ | apply mT)); exact rfl)
           | (apply Ev.load_agg; (· exact rfl); (· repeat (first | exact mH _ _ | apply mT)); exact rfl)
           | (apply Ev.load_rdq; (· exact rfl); (· repeat (first | exact mH _ _ | apply mT)); iterate 2 exact rfl)
           | (apply Ev.load_ardq; (· exact rfl); (· repeat (first | exact mH _ _ | apply mT)); exact rfl)
           | (apply Ev.fieldAddr; exact rfl)
           | (apply Ev.len; exact rfl)
           | (apply EqOf.eq; exact rfl)
           | (apply EqOf.ne; exact rfl)
           | (apply Ev.conv; exact rfl)
           | (apply Ev.buildN; exact rfl)
           | (apply Ev.shr; (iterate 2 exact rfl); first | decide | omega)
           | (apply Ev.shl; (iterate 2 exact rfl); first | decide | omega)
         · exact rfl)
      | (apply yq; iterate 5 exact rfl)
      | (apply QL.evg; iterate 3 exact rfl
         · first
           | (apply Ev.load_own; (· exact rfl); (· repeat (first | exact mH _ _ | apply mT)); exact rfl)
           | (apply Ev.load_agg; (· exact rfl); (· repeat (first | exact mH _ _ | apply mT)); exact rfl)
           | (apply Ev.load_rdq; (· exact rfl); (· repeat (first | exact mH _ _ | apply mT)); iterate 2 exact rfl)
           | (apply Ev.load_ardq; (· exact rfl); (· repeat (first | exact mH _ _ | apply mT)); exact rfl)
           | (apply Ev.fieldAddr; exact rfl)
           | (apply Ev.len; exact rfl)
           | (apply EqOf.eq; exact rfl)
           | (apply EqOf.ne; exact rfl)
           | (apply Ev.conv; exact rfl)
           | (apply Ev.buildN; exact rfl)
           | (apply Ev.shr; (iterate 2 exact rfl); first | decide | omega)
           | (apply Ev.shl; (iterate 2 exact rfl); first | decide | omega)
         · exact rfl)
      | (apply yn; iterate 4 exact rfl)
      | apply QL.nil
      )
    show DW _ _ _ _ _ _ _ _
    apply DW.loud 13
    · exact rfl
    · decide +kernel
    apply LR.call
    · exact rfl
    intro w1 h1
    refine CallsTo.mono (show CallsTo Try.prog 57 [d.msg.val a c] w1 _ from c57 d.msg a c w1 (h1.rd_of (by (repeat (first | exact mH _ _ | apply mT)))) hz hck) ?_
    rintro v w2 ⟨a2, c2, rfl, hn⟩
    refine LR.back (h1.newSl hn) ?_
    clear hn h1
    repeat' (
      first
      | (
        first
        | (apply kp; iterate 2 exact rfl)
        | apply ja | apply jb | apply jg | apply jj | (apply je; exact rfl) | (apply jf; exact rfl) | apply jd | apply jh | apply ji | (apply jc; kernel_rfl) | apply jk | apply jl | apply jm | apply jn | apply jo | (apply jp; exact rfl) | apply jq | apply jr | apply js | apply jt | apply ju | apply jv | apply jw | apply kN | apply kM
        | (apply kf; iterate 2 exact rfl)
        | (apply ko; (· exact rfl); (· repeat (first | exact mH _ _ | apply mT)); iterate 2 exact rfl)
        | (apply ka; (· exact rfl); (· repeat (first | exact mH _ _ | apply mT)); iterate 2 exact rfl)
        | (apply kr; (· exact rfl); (· repeat (first | exact mH _ _ | apply mT)); iterate 3 exact rfl)
        | (apply ks; (· exact rfl); (· repeat (first | exact mH _ _ | apply mT)); iterate 2 exact rfl)
        | (apply kn; iterate 2 exact rfl)
        | (apply ke; iterate 2 exact rfl)
        | (apply kx; iterate 2 exact rfl)
        | (apply kc; iterate 2 exact rfl)
        | (apply kb; iterate 2 exact rfl)
        | (apply kg; iterate 2 exact rfl)
        | (apply kG; iterate 3 exact rfl)
        | (apply kB; (iterate 2 exact rfl); intro _)
        | (apply kA; exact rfl; intro _)
        | (apply kL; (iterate 3 exact rfl); (· repeat (first | exact BS.nil _ | (apply BS.int; exact rfl) | (apply BS.ptr; exact rfl) | (apply BS.slice; exact rfl) | (apply BS.agg; iterate 2 exact rfl))); intro _)
        | (apply kT; (iterate 2 exact rfl); (· repeat (first | exact sH _ _ _ | apply sT)); iterate 2 exact rfl)
        | (apply kS; (iterate 2 exact rfl); (· repeat (first | exact sH _ _ _ | apply sT)); exact rfl)
        | (apply kh; (iterate 2 exact rfl); (first | decide | omega); exact rfl)
        | (apply kl; (iterate 2 exact rfl); (first | decide | omega); exact rfl)
        )
      | ((first | (apply kR; (· exact rfl); (· exact rfl)) | (apply kQ; (· exact rfl))); all_goals (intro hc; try simp only [decide_eq_true_eq, decide_eq_false_iff_not, Bool.not_eq_true', Bool.not_eq_false', Bool.not_eq_true, Bool.not_eq_false, Bool.not_true, Bool.not_false, Int.not_lt, Int.not_le, List.cons.injEq, and_true, beq_iff_eq, beq_eq_false_iff_ne] at hc; try (exfalso; first | contradiction | omega)))
      )
    refine At.stage_same (fun _ h => St.sub h (by repeat (first | exact List.Sublist.refl _ | apply List.Sublist.cons))) ?_
    apply DW.quiet [14]
    · decide +kernel
    · first | exact fun _ h => h | exact fun _ h => St.sub h (by repeat (first | exact List.Sublist.refl _ | apply List.Sublist.cons))
    repeat' (
      first
      | (apply yp; iterate 3 exact rfl)
      | (apply QL.ev; exact rfl
         · first
           | (apply Ev.load_own; (· exact rfl); (· repeat (first | exact mH _ _ | apply mT)); exact rfl)
           | (apply Ev.load_agg; (· exact rfl); (· repeat (first | exact mH _ _ | apply mT)); exact rfl)
           | (apply Ev.load_rdq; (· exact rfl); (· repeat (first | exact mH _ _ | apply mT)); iterate 2 exact rfl)
           | (apply Ev.load_ardq; (· exact rfl); (· repeat (first | exact mH _ _ | apply mT)); exact rfl)
           | (apply Ev.fieldAddr; exact rfl)
           | (apply Ev.len; exact rfl)
           | (apply EqOf.eq; exact rfl)
           | (apply EqOf.ne; exact rfl)
           | (apply Ev.conv; exact rfl)
           | (apply Ev.buildN; exact rfl)
           | (apply Ev.shr; (iterate 2 exact rfl); first | decide | omega)
           | (apply Ev.shl; (iterate 2 exact rfl); first | decide | omega)
         · exact rfl)
      | (apply yq; iterate 5 exact rfl)
      | (apply QL.evg; iterate 3 exact rfl
         · first
           | (apply Ev.load_own; (· exact rfl); (· repeat (first | exact mH _ _ | apply mT)); exact rfl)
           | (apply Ev.load_agg; (· exact rfl); (· repeat (first | exact mH _ _ | apply mT)); exact rfl)
           | (apply Ev.load_rdq; (· exact rfl); (· repeat (first | exact mH _ _ | apply mT)); iterate 2 exact rfl)
           | (apply Ev.load_ardq; (· exact rfl); (· repeat (first | exact mH _ _ | apply mT)); exact rfl)
           | (apply Ev.fieldAddr; exact rfl)
           | (apply Ev.len; exact rfl)
           | (apply EqOf.eq; exact rfl)
           | (apply EqOf.ne; exact rfl)
           | (apply Ev.conv; exact rfl)
           | (apply Ev.buildN; exact rfl)
           | (apply Ev.shr; (iterate 2 exact rfl); first | decide | omega)
           | (apply Ev.shl; (iterate 2 exact rfl); first | decide | omega)
         · exact rfl)
      | (apply yn; iterate 4 exact rfl)
      | apply QL.nil
      )
    show DW _ _ _ _ _ _ _ _
    apply DW.loud 15
    · exact rfl
    · decide +kernel
    repeat' (
      first
      | (apply kg; iterate 2 exact rfl)
      | (apply kG; iterate 3 exact rfl)
      | apply kM
      | (
        first
        | (apply kp; iterate 2 exact rfl)
        | (apply ko; (· exact rfl); (· repeat (first | exact mH _ _ | apply mT)); iterate 2 exact rfl)
        | (apply ka; (· exact rfl); (· repeat (first | exact mH _ _ | apply mT)); iterate 2 exact rfl)
        | (apply kL; (iterate 3 exact rfl); (· repeat (first | exact BS.nil _ | (apply BS.int; exact rfl) | (apply BS.ptr; exact rfl) | (apply BS.slice; exact rfl) | (apply BS.agg; iterate 2 exact rfl))); intro _)
        | (apply kT; (iterate 2 exact rfl); (· repeat (first | exact sH _ _ _ | apply sT)); iterate 2 exact rfl)
        | (apply kS; (iterate 2 exact rfl); (· repeat (first | exact sH _ _ _ | apply sT)); exact rfl)
        | (apply kB; (iterate 2 exact rfl); intro _)
        | (apply kA; exact rfl; intro _)
        )
      )
    refine At.stage_same (fun _ h => St.sub h (by repeat (first | exact List.Sublist.refl _ | apply List.Sublist.cons))) ?_
    apply DW.quiet [16]
    · decide +kernel
    · first | exact fun _ h => h | exact fun _ h => St.sub h (by repeat (first | exact List.Sublist.refl _ | apply List.Sublist.cons))
    repeat' (
      first
      | (apply yp; iterate 3 exact rfl)
      | (apply QL.ev; exact rfl
         · first
           | (apply Ev.load_own; (· exact rfl); (· repeat (first | exact mH _ _ | apply mT)); exact rfl)
           | (apply Ev.load_agg; (· exact rfl); (· repeat (first | exact mH _ _ | apply mT)); exact rfl)
           | (apply Ev.load_rdq; (· exact rfl); (· repeat (first | exact mH _ _ | apply mT)); iterate 2 exact rfl)
           | (apply Ev.load_ardq; (· exact rfl); (· repeat (first | exact mH _ _ | apply mT)); exact rfl)
           | (apply Ev.fieldAddr; exact rfl)
           | (apply Ev.len; exact rfl)
           | (apply EqOf.eq; exact rfl)
           | (apply EqOf.ne; exact rfl)
           | (apply Ev.conv; exact rfl)
           | (apply Ev.buildN; exact rfl)
           | (apply Ev.shr; (iterate 2 exact rfl); first | decide | omega)
           | (apply Ev.shl; (iterate 2 exact rfl); first | decide | omega)
         · exact rfl)
      | (apply yq; iterate 5 exact rfl)
      | (apply QL.evg; iterate 3 exact rfl
         · first
           | (apply Ev.load_own; (· exact rfl); (· repeat (first | exact mH _ _ | apply mT)); exact rfl)
           | (apply Ev.load_agg; (· exact rfl); (· repeat (first | exact mH _ _ | apply mT)); exact rfl)
           | (apply Ev.load_rdq; (· exact rfl); (· repeat (first | exact mH _ _ | apply mT)); iterate 2 exact rfl)
           | (apply Ev.load_ardq; (· exact rfl); (· repeat (first | exact mH _ _ | apply mT)); exact rfl)
           | (apply Ev.fieldAddr; exact rfl)
           | (apply Ev.len; exact rfl)
           | (apply EqOf.eq; exact rfl)
           | (apply EqOf.ne; exact rfl)
           | (apply Ev.conv; exact rfl)
           | (apply Ev.buildN; exact rfl)
           | (apply Ev.shr; (iterate 2 exact rfl); first | decide | omega)
           | (apply Ev.shl; (iterate 2 exact rfl); first | decide | omega)
         · exact rfl)
      | (apply yn; iterate 4 exact rfl)
      | apply QL.nil
      )
    show DW _ _ _ _ _ _ _ _
    apply DW.done_thn
    · kernel_rfl
    repeat' (
      first
      | (
        first
        | (apply kp; iterate 2 exact rfl)
        | apply ja | apply jb | apply jg | apply jj | (apply je; exact rfl) | (apply jf; exact rfl) | apply jd | apply jh | apply ji | (apply jc; kernel_rfl) | apply jk | apply jl | apply jm | apply jn | apply jo | (apply jp; exact rfl) | apply jq | apply jr | apply js | apply jt | apply ju | apply jv | apply jw | apply kN | apply kM
        | (apply kf; iterate 2 exact rfl)
        | (apply ko; (· exact rfl); (· repeat (first | exact mH _ _ | apply mT)); iterate 2 exact rfl)
        | (apply ka; (· exact rfl); (· repeat (first | exact mH _ _ | apply mT)); iterate 2 exact rfl)
        | (apply kr; (· exact rfl); (· repeat (first | exact mH _ _ | apply mT)); iterate 3 exact rfl)
        | (apply ks; (· exact rfl); (· repeat (first | exact mH _ _ | apply mT)); iterate 2 exact rfl)
        | (apply kn; iterate 2 exact rfl)
        | (apply ke; iterate 2 exact rfl)
        | (apply kx; iterate 2 exact rfl)
        | (apply kc; iterate 2 exact rfl)
        | (apply kb; iterate 2 exact rfl)
        | (apply kg; iterate 2 exact rfl)
        | (apply kG; iterate 3 exact rfl)
        | (apply kB; (iterate 2 exact rfl); intro _)
        | (apply kA; exact rfl; intro _)
        | (apply kL; (iterate 3 exact rfl); (· repeat (first | exact BS.nil _ | (apply BS.int; exact rfl) | (apply BS.ptr; exact rfl) | (apply BS.slice; exact rfl) | (apply BS.agg; iterate 2 exact rfl))); intro _)
        | (apply kT; (iterate 2 exact rfl); (· repeat (first | exact sH _ _ _ | apply sT)); iterate 2 exact rfl)
        | (apply kS; (iterate 2 exact rfl); (· repeat (first | exact sH _ _ _ | apply sT)); exact rfl)
        | (apply kh; (iterate 2 exact rfl); (first | decide | omega); exact rfl)
        | (apply kl; (iterate 2 exact rfl); (first | decide | omega); exact rfl)
        )
      | ((first | (apply kR; (· exact rfl); (· exact rfl)) | (apply kQ; (· exact rfl))); all_goals (intro hc; try simp only [decide_eq_true_eq, decide_eq_false_iff_not, Bool.not_eq_true', Bool.not_eq_false', Bool.not_eq_true, Bool.not_eq_false, Bool.not_true, Bool.not_false, Int.not_lt, Int.not_le, List.cons.injEq, and_true, beq_iff_eq, beq_eq_false_iff_ne] at hc; try (exfalso; first | contradiction | omega)))
      )
    (apply ret2c; (· exact rfl); (· exact inferInstance); (· exact rfl); (· (repeat (first | exact List.Mem.head _ | apply List.Mem.tail))); (· exact rfl); intro w' hS)
    rw [e]
    exact ⟨a2, c2, rfl, hS.toNew (by (repeat (first | exact mH _ _ | apply mT)))⟩
  all_goals (
    have e : old d = (zeroMsg, 2) := by clear nils; unfold old; rw [if_neg (by simp_all [mayOld, withinB_iff, numB_iff] <;> (intros; omega))]
    (apply ret2c; (· exact rfl); (· exact inferInstance); (· exact rfl); (· (repeat (first | exact List.Mem.head _ | apply List.Mem.tail))); (· exact rfl); intro w' hS)
    rw [e]
    exact ⟨none, 0, rfl, nils w' hS.toKeep⟩)

set_option maxHeartbeats 4000000 in
theorem c83 (m : Msg) (a : Option Addr) (c : Nat) (w : World) (hr : Rd w a (bv m.body)) (hz : a = none → c = 0) (hm : m.body.length ≤ 140737488355328) (hb : Byt m.body) :
    CallsTo Try.prog 83 [m.val a c] w fun v w' => ∃ a2 c2, v = .tuple [(inner m).1.val a2 c2, .int .i64 (inner m).2].toArray ∧ NewSl w w' (.slice a2 (inner m).1.msg.body.length c2) 5 1 (inner m).1.msg.body.length (bv (inner m).1.msg.body) := by
  refine go_in (n := 34) (St.rd1 hr) Try.func83 rfl rfl ?_
  have nils : ∀ w', Grew w w' → NewSl w w' (.slice none 0 0) 5 1 0 (bv []) := fun w' hg => ⟨hg, World.ownsRow_nil _ _ _ _⟩
  repeat' (
    first
    | (
      first
      | (apply kp; iterate 2 exact rfl)
      | apply ja | apply jb | apply jg | apply jj | (apply je; exact rfl) | (apply jf; exact rfl) | apply jd | apply jh | apply ji | (apply jc; kernel_rfl) | apply jk | apply jl | apply jm | apply jn | apply jo | (apply jp; exact rfl) | apply jq | apply jr | apply js | apply jt | apply ju | apply jv | apply jw | apply kN | apply kM
      | (apply kf; iterate 2 exact rfl)
      | (apply ko; (· exact rfl); (· repeat (first | exact mH _ _ | apply mT)); iterate 2 exact rfl)
      | (apply ka; (· exact rfl); (· repeat (first | exact mH _ _ | apply mT)); iterate 2 exact rfl)
      | (apply kr; (· exact rfl); (· repeat (first | exact mH _ _ | apply mT)); iterate 3 exact rfl)
      | (apply ks; (· exact rfl); (· repeat (first | exact mH _ _ | apply mT)); iterate 2 exact rfl)
      | (apply kn; iterate 2 exact rfl)
      | (apply ke; iterate 2 exact rfl)
      | (apply kx; iterate 2 exact rfl)
      | (apply kc; iterate 2 exact rfl)
      | (apply kb; iterate 2 exact rfl)
      | (apply kg; iterate 2 exact rfl)
      | (apply kG; iterate 3 exact rfl)
      | (apply kB; (iterate 2 exact rfl); intro _)
      | (apply kA; exact rfl; intro _)
      | (apply kL; (iterate 3 exact rfl); (· repeat (first | exact BS.nil _ | (apply BS.int; exact rfl) | (apply BS.ptr; exact rfl) | (apply BS.slice; exact rfl) | (apply BS.agg; iterate 2 exact rfl))); intro _)
      | (apply kT; (iterate 2 exact rfl); (· repeat (first | exact sH _ _ _ | apply sT)); iterate 2 exact rfl)
      | (apply kS; (iterate 2 exact rfl); (· repeat (first | exact sH _ _ _ | apply sT)); exact rfl)
      | (apply kh; (iterate 2 exact rfl); (first | decide | omega); exact rfl)
      | (apply kl; (iterate 2 exact rfl); (first | decide | omega); exact rfl)
      )
    | (apply kq; (· exact rfl); (· intro w1 h1; have hq := CallsTo.q (d18 m a c w1 (h1.rd_of (by (repeat (first | exact mH _ _ | apply mT)))) hz hm hb) h1; show CallsTo Try.prog 18 [m.val a c] w1 _; exact hq))
    | ((first | (apply kR; (· exact rfl); (· exact rfl)) | (apply kQ; (· exact rfl))); all_goals (intro hc; try simp only [decide_eq_true_eq, decide_eq_false_iff_not, Bool.not_eq_true', Bool.not_eq_false', Bool.not_eq_true, Bool.not_eq_false, Bool.not_true, Bool.not_false, Int.not_lt, Int.not_le, List.cons.injEq, and_true, beq_iff_eq, beq_eq_false_iff_ne] at hc; try (exfalso; first | contradiction | omega)))
    )
  rotate_right
  · rename check m = 0 => hck
    rename m.kind = 5 => hk
    have e : inner m = (innerD m, 0) := by unfold inner; rw [if_pos ⟨hck, hk⟩]
    apply LR.call
    · exact rfl
    intro w1 h1
    refine (d24 a c m.body w1 (h1.rd_of (by (repeat (first | exact mH _ _ | apply mT)))) hz hm hb).mono ?_
    rintro v w2 ⟨a1, c1, rfl, hn⟩
    refine LR.back (h1.newSl hn) ?_
    clear hn h1
    repeat' (
      first
      | (
        first
        | (apply kp; iterate 2 exact rfl)
        | apply ja | apply jb | apply jg | apply jj | (apply je; exact rfl) | (apply jf; exact rfl) | apply jd | apply jh | apply ji | (apply jc; kernel_rfl) | apply jk | apply jl | apply jm | apply jn | apply jo | (apply jp; exact rfl) | apply jq | apply jr | apply js | apply jt | apply ju | apply jv | apply jw | apply kN | apply kM
        | (apply kf; iterate 2 exact rfl)
        | (apply ko; (· exact rfl); (· repeat (first | exact mH _ _ | apply mT)); iterate 2 exact rfl)
        | (apply ka; (· exact rfl); (· repeat (first | exact mH _ _ | apply mT)); iterate 2 exact rfl)
        | (apply kr; (· exact rfl); (· repeat (first | exact mH _ _ | apply mT)); iterate 3 exact rfl)
        | (apply ks; (· exact rfl); (· repeat (first | exact mH _ _ | apply mT)); iterate 2 exact rfl)
        | (apply kn; iterate 2 exact rfl)
        | (apply ke; iterate 2 exact rfl)
        | (apply kx; iterate 2 exact rfl)
        | (apply kc; iterate 2 exact rfl)
        | (apply kb; iterate 2 exact rfl)
        | (apply kg; iterate 2 exact rfl)
        | (apply kG; iterate 3 exact rfl)
        | (apply kB; (iterate 2 exact rfl); intro _)
        | (apply kA; exact rfl; intro _)
        | (apply kL; (iterate 3 exact rfl); (· repeat (first | exact BS.nil _ | (apply BS.int; exact rfl) | (apply BS.ptr; exact rfl) | (apply BS.slice; exact rfl) | (apply BS.agg; iterate 2 exact rfl))); intro _)
        | (apply kT; (iterate 2 exact rfl); (· repeat (first | exact sH _ _ _ | apply sT)); iterate 2 exact rfl)
        | (apply kS; (iterate 2 exact rfl); (· repeat (first | exact sH _ _ _ | apply sT)); exact rfl)
        | (apply kh; (iterate 2 exact rfl); (first | decide | omega); exact rfl)
        | (apply kl; (iterate 2 exact rfl); (first | decide | omega); exact rfl)
        )
      | ((first | (apply kR; (· exact rfl); (· exact rfl)) | (apply kQ; (· exact rfl))); all_goals (intro hc; try simp only [decide_eq_true_eq, decide_eq_false_iff_not, Bool.not_eq_true', Bool.not_eq_false', Bool.not_eq_true, Bool.not_eq_false, Bool.not_true, Bool.not_false, Int.not_lt, Int.not_le, List.cons.injEq, and_true, beq_iff_eq, beq_eq_false_iff_ne] at hc; try (exfalso; first | contradiction | omega)))
      )
    (apply ret2c; (· exact rfl); (· exact inferInstance); (· exact rfl); (· (repeat (first | exact List.Mem.head _ | apply List.Mem.tail))); (· exact rfl); intro w' hS)
    rw [e]
    exact ⟨a1, c1, rfl, hS.toNew (by (repeat (first | exact mH _ _ | apply mT)))⟩
  all_goals (
    (apply ret2c; (· exact rfl); (· exact inferInstance); (· exact rfl); (· (repeat (first | exact List.Mem.head _ | apply List.Mem.tail))); (· exact rfl); intro w' hS)
    have e : inner m = (zeroDat, 2) := by unfold inner; rw [if_neg (by simp_all)]
    rw [e]
    exact ⟨none, 0, rfl, nils w' hS.toKeep⟩)

def sameD (x y : Dat) : Bool := decide ([x.rseq, x.rrep] = [y.rseq, y.rrep] ∧ x.seq = y.seq ∧ x.sender = y.sender ∧ x.stamp = y.stamp ∧ sameB x.msg y.msg = true)
theorem sameD_self (x : Dat) : sameD x x = true := by simp [sameD, sameB_self]
set_option maxHeartbeats 2000000 in
theorem c84 (x y : Dat) (a b : Option Addr) (c d : Nat) (w : World) (hx : Rd w a (bv x.msg.body)) (hy : Rd w b (bv y.msg.body)) (hm : x.msg.body.length ≤ 140737488355328) :
    CallsTo Try.prog 84 [x.val a c, y.val b d] w fun v w' => v = .bool (sameD x y) ∧ Grew w w' := by
  refine go_in (n := 38) (St.rd2 hx hy) Try.func84 rfl rfl ?_
  repeat' (
    first
    | (
      first
      | (apply kp; iterate 2 exact rfl)
      | apply ja | apply jb | apply jg | apply jj | (apply je; exact rfl) | (apply jf; exact rfl) | apply jd | apply jh | apply ji | (apply jc; kernel_rfl) | apply jk | apply jl | apply jm | apply jn | apply jo | (apply jp; exact rfl) | apply jq | apply jr | apply js | apply jt | apply ju | apply jv | apply jw | apply kN | apply kM
      | (apply kf; iterate 2 exact rfl)
      | (apply ko; (· exact rfl); (· repeat (first | exact mH _ _ | apply mT)); iterate 2 exact rfl)
      | (apply ka; (· exact rfl); (· repeat (first | exact mH _ _ | apply mT)); iterate 2 exact rfl)
      | (apply kr; (· exact rfl); (· repeat (first | exact mH _ _ | apply mT)); iterate 3 exact rfl)
      | (apply ks; (· exact rfl); (· repeat (first | exact mH _ _ | apply mT)); iterate 2 exact rfl)
      | (apply kn; iterate 2 exact rfl)
      | (apply ke; iterate 2 exact rfl)
      | (apply kx; iterate 2 exact rfl)
      | (apply kc; iterate 2 exact rfl)
      | (apply kb; iterate 2 exact rfl)
      | (apply kg; iterate 2 exact rfl)
      | (apply kG; iterate 3 exact rfl)
      | (apply kB; (iterate 2 exact rfl); intro _)
      | (apply kA; exact rfl; intro _)
      | (apply kL; (iterate 3 exact rfl); (· repeat (first | exact BS.nil _ | (apply BS.int; exact rfl) | (apply BS.ptr; exact rfl) | (apply BS.slice; exact rfl) | (apply BS.agg; iterate 2 exact rfl))); intro _)
      | (apply kT; (iterate 2 exact rfl); (· repeat (first | exact sH _ _ _ | apply sT)); iterate 2 exact rfl)
      | (apply kS; (iterate 2 exact rfl); (· repeat (first | exact sH _ _ _ | apply sT)); exact rfl)
      | (apply kh; (iterate 2 exact rfl); (first | decide | omega); exact rfl)
      | (apply kl; (iterate 2 exact rfl); (first | decide | omega); exact rfl)
      )
    | (apply kq; (· exact rfl); (· intro w1 h1; have hq := CallsTo.q (c20 x.msg y.msg a b c d w1 (h1.rd_of (by (repeat (first | exact mH _ _ | apply mT)))) (h1.rd_of (by (repeat (first | exact mH _ _ | apply mT)))) (by omega)) h1; show CallsTo Try.prog 20 [x.msg.val a c, y.msg.val b d] w1 _; exact hq))
    | ((first | (apply kR; (· exact rfl); (· exact rfl)) | (apply kQ; (· exact rfl))); all_goals (intro hc; try simp only [decide_eq_true_eq, decide_eq_false_iff_not, Bool.not_eq_true', Bool.not_eq_false', Bool.not_eq_true, Bool.not_eq_false, Bool.not_true, Bool.not_false, Int.not_lt, Int.not_le, List.cons.injEq, and_true, beq_iff_eq, beq_eq_false_iff_ne] at hc; try (exfalso; first | contradiction | omega)))
    )
  all_goals (
    (apply ret1; (· exact rfl); intro w' hS)
    refine ⟨congrArg Value.bool ?_, hS.toKeep⟩
    unfold sameD
    simp_all)
end Go.Proofs.Ytomlgnncncjmaaa
