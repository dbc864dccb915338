/-
  chart, old, Check, Unpack: one by the other.
-/
import Derived.Test.YtomlgnncncjmaaaA14
-- all by hand
namespace Go.Proofs.Ytomlgnncncjmaaa
open Go.Hb
attribute [local irreducible] LR CW At Ev thn blk finK noG again CallsTo DW QL dnext
set_option linter.unusedSimpArgs false
set_option linter.unusedVariables false
set_option maxRecDepth 100000

def chartB (m : Msg) : Bool := plainB m && decide (m.id = 0) && decide ((places m.body).2 = 0)
theorem c93 (m : Msg) (a : Option Addr) (c : Nat) (w : World) (hr : Rd w a (bv m.body)) (hz : a = none → c = 0) (hm : m.body.length ≤ 140737488355328) (hb : Byt m.body) :
    CallsTo Try.prog 93 [m.val a c] w fun v w' => v = .bool (chartB m) ∧ Grew w w' := by
  refine go_in (n := 22) (St.rd1 hr) Try.func93 rfl rfl ?_
  unfold chartB
  repeat' (
    first
    | (
      first
      | (apply kp; iterate 2 exact rfl)
      | apply ja | apply jb | apply jg | apply jj | (apply je; exact rfl) | (apply jf; exact rfl) | apply jd | apply jh | apply ji | (apply jc; kernel_rfl) | apply jk | apply jl | apply jm | apply jn | apply jo | (apply jp; exact rfl) | apply jq | apply jr | apply js | apply jt | apply ju | apply jv | apply jw | apply kN | apply kM
      | (apply kf; iterate 2 exact rfl)
      | (apply ko; (· exact rfl); (· repeat (first | exact mH _ _ | apply mT)); iterate 2 exact rfl)
      | (apply ka; (· exact rfl); (· repeat (first | exact mH _ _ | apply mT)); iterate 2 exact rfl)
      | (apply kr; (· exact rfl); (· repeat (first | exact mH _ _ | apply mT)); iterate 3 exact rfl)
      | (apply ks; (· exact rfl); (· repeat (first | exact mH _ _ | apply mT)); iterate 2 exact rfl)
      | (apply kn; iterate 2 exact rfl)
      | (apply ke; iterate 2 exact rfl)
      | (apply kx; iterate 2 exact rfl)
      | (apply kc; iterate 2 exact rfl)
      | (apply kb; iterate 2 exact rfl)
      | (apply kg; iterate 2 exact rfl)
      | (apply kG; iterate 3 exact rfl)
      | (apply kB; (iterate 2 exact rfl); intro _)
      | (apply kA; exact rfl; intro _)
      | (apply kL; (iterate 3 exact rfl); (· repeat (first | exact BS.nil _ | (apply BS.int; exact rfl) | (apply BS.ptr; exact rfl) | (apply BS.slice; exact rfl) | (apply BS.agg; iterate 2 exact rfl))); intro _)
      | (apply kT; (iterate 2 exact rfl); (· repeat (first | exact sH _ _ _ | apply sT)); iterate 2 exact rfl)
      | (apply kS; (iterate 2 exact rfl); (· repeat (first | exact sH _ _ _ | apply sT)); exact rfl)
      | (apply kh; (iterate 2 exact rfl); (first | decide | omega); exact rfl)
      | (apply kl; (iterate 2 exact rfl); (first | decide | omega); exact rfl)
      )
    | (apply LR.call; (· exact rfl); (intro w1 h1; refine (c25 a c m.body w1 (h1.rd_of (List.Mem.tail _ (List.Mem.head _))) hz hm hb).mono ?_; rintro v w2 ⟨a2, c2, rfl, hn⟩; refine LR.back (h1.newSl hn) ?_; clear hn h1))
    | (apply LR.qcall; (· exact rfl); (· intro w1 h1; have hq := CallsTo.q (c103 m a c w1) h1; show CallsTo Try.prog 103 [m.val a c] w1 _; exact hq))
    | ((first | (apply kR; (· exact rfl); (· exact rfl)) | (apply kQ; (· exact rfl))); all_goals (intro hc; try simp only [decide_eq_true_eq, decide_eq_false_iff_not, Bool.not_eq_true', Bool.not_eq_false', Bool.not_eq_true, Bool.not_eq_false, Bool.not_true, Bool.not_false, Int.not_lt, Int.not_le, List.cons.injEq, and_true, beq_iff_eq, beq_eq_false_iff_ne] at hc; try (exfalso; first | contradiction | omega)))
    )
  all_goals (
    (apply ret1; (· exact rfl); intro w' hS)
    refine ⟨congrArg Value.bool ?_, hS.toKeep⟩
    simp_all)

def zeroMsg : Msg := ⟨0, 0, 0, 0, 0, 0, 0, false, 0, 0, 0, 0, []⟩
def oldB (u : List Int → Msg × Int) (m : Msg) : Bool :=
  plainB m && decide (1 ≤ m.id ∧ m.id ≤ 8 ∧ ¬ (m.rseq = 0 ∧ m.rrep = 0) ∧ 0 < m.kseq ∧ (u m.body).2 = 0 ∧ (u m.body).1.kind ≠ 5)
def kindB (u : List Int → Msg × Int) (m : Msg) : Bool :=
  if m.kind = 1 then textB m else if m.kind = 2 then emptyB m else if m.kind = 3 then wantB m else if m.kind = 4 then chartB m else if m.kind = 5 then oldB u m else false
def mayB (u : List Int → Msg × Int) (m : Msg) : Bool :=
  decide (1 ≤ m.kind ∧ m.kind ≤ 5) && withinB m.origin 1 8 && withinB m.life 0 9007199254740991 && withinB m.id 0 9007199254740991 && withinB m.groups 0 255 && decide (keyE m.stamp m.rseq m.rrep m.kseq = 0) && kindB u m
/-- Whether a message may be, u being what unpacks a body. -/
def checkM (u : List Int → Msg × Int) (m : Msg) : Int := if 160 < m.body.length then 5 else if mayB u m then 0 else 2
def msgOf (v x : List Int) (b : List Int) : Msg := ⟨v.getD 0 0, v.getD 1 0, v.getD 2 0, v.getD 3 0, v.getD 4 0, v.getD 5 0, v.getD 6 0, decide (v.getD 7 0 = 1), x.getD 0 0, x.getD 1 0, x.getD 2 0, x.getD 3 0, b⟩
/-- The message of bytes, or what is wrong, ck telling of a message whether it may be. -/
def unpackW (ck : Msg → Int) (l : List Int) : Msg × Int :=
  if (decs 8 l).2.1 ≠ 0 then (zeroMsg, (decs 8 l).2.1)
  else if 1 < (decs 8 l).1.getD 7 0 then (zeroMsg, 4)
  else if (decs 4 (decs 8 l).2.2).2.1 ≠ 0 then (zeroMsg, (decs 4 (decs 8 l).2.2).2.1)
  else if (octs 160 (decs 4 (decs 8 l).2.2).2.2).2.1 ≠ 0 then (zeroMsg, (octs 160 (decs 4 (decs 8 l).2.2).2.2).2.1)
  else if 0 < (octs 160 (decs 4 (decs 8 l).2.2).2.2).2.2.length ∨ ck (msgOf (decs 8 l).1 (decs 4 (decs 8 l).2.2).1 (octs 160 (decs 4 (decs 8 l).2.2).2.2).1) ≠ 0 then (zeroMsg, 4)
  else (msgOf (decs 8 l).1 (decs 4 (decs 8 l).2.2).1 (octs 160 (decs 4 (decs 8 l).2.2).2.2).1, 0)
def unpackF : Nat → List Int → Msg × Int
  | 0 => unpackW fun _ => 2
  | k + 1 => unpackW (checkM (unpackF k))

def UnpC (g : Nat) (K : Nat) : Prop := ∀ (a : Option Addr) (ca : Nat) (l : List Int) (w : World), Rd w a (bv l) → (a = none → ca = 0) → l.length ≤ 140737488355328 → Byt l → l.length ≤ K →
  CallsTo Try.prog g [.slice a l.length ca] w fun v w' => ∃ a2 c2, v = .tuple [(unpackF K l).1.val a2 c2, .int .i64 (unpackF K l).2].toArray ∧ NewSl w w' (.slice a2 (unpackF K l).1.body.length c2) 5 1 (unpackF K l).1.body.length (bv (unpackF K l).1.body)

theorem c94 {K : Nat} (hU : UnpC 23 K) (m : Msg) (a : Option Addr) (c : Nat) (w : World) (hr : Rd w a (bv m.body)) (hz : a = none → c = 0) (hm : m.body.length ≤ 140737488355328) (hb : Byt m.body) (hK : m.body.length ≤ K) :
    CallsTo Try.prog 94 [m.val a c] w fun v w' => v = .bool (oldB (unpackF K) m) ∧ Grew w w' := by
  refine go_in (n := 40) (St.rd1 hr) Try.func94 rfl rfl ?_
  unfold oldB
  repeat' (
    first
    | (
      first
      | (apply kp; iterate 2 exact rfl)
      | apply ja | apply jb | apply jg | apply jj | (apply je; exact rfl) | (apply jf; exact rfl) | apply jd | apply jh | apply ji | (apply jc; kernel_rfl) | apply jk | apply jl | apply jm | apply jn | apply jo | (apply jp; exact rfl) | apply jq | apply jr | apply js | apply jt | apply ju | apply jv | apply jw | apply kN | apply kM
      | (apply kf; iterate 2 exact rfl)
      | (apply ko; (· exact rfl); (· repeat (first | exact mH _ _ | apply mT)); iterate 2 exact rfl)
      | (apply ka; (· exact rfl); (· repeat (first | exact mH _ _ | apply mT)); iterate 2 exact rfl)
      | (apply kr; (· exact rfl); (· repeat (first | exact mH _ _ | apply mT)); iterate 3 exact rfl)
      | (apply ks; (· exact rfl); (· repeat (first | exact mH _ _ | apply mT)); iterate 2 exact rfl)
      | (apply kn; iterate 2 exact rfl)
      | (apply ke; iterate 2 exact rfl)
      | (apply kx; iterate 2 exact rfl)
      | (apply kc; iterate 2 exact rfl)
      | (apply kb; iterate 2 exact rfl)
      | (apply kg; iterate 2 exact rfl)
      | (apply kG; iterate 3 exact rfl)
      | (apply kB; (iterate 2 exact rfl); intro _)
      | (apply kA; exact rfl; intro _)
      | (apply kL; (iterate 3 exact rfl); (· repeat (first | exact BS.nil _ | (apply BS.int; exact rfl) | (apply BS.ptr; exact rfl) | (apply BS.slice; exact rfl) | (apply BS.agg; iterate 2 exact rfl))); intro _)
      | (apply kT; (iterate 2 exact rfl); (· repeat (first | exact sH _ _ _ | apply sT)); iterate 2 exact rfl)
      | (apply kS; (iterate 2 exact rfl); (· repeat (first | exact sH _ _ _ | apply sT)); exact rfl)
      | (apply kh; (iterate 2 exact rfl); (first | decide | omega); exact rfl)
      | (apply kl; (iterate 2 exact rfl); (first | decide | omega); exact rfl)
      )
    | (apply LR.call; (· exact rfl); (intro w1 h1; refine (hU a c m.body w1 (h1.rd_of (List.Mem.tail _ (List.Mem.head _))) hz hm hb hK).mono ?_; rintro v w2 ⟨a2, c2, rfl, hn⟩; refine LR.back (h1.newSl hn) ?_; clear hn h1))
    | (apply LR.qcall; (· exact rfl); (· intro w1 h1; have hq := CallsTo.q (c103 m a c w1) h1; show CallsTo Try.prog 103 [m.val a c] w1 _; exact hq))
    | (apply kq; (· exact rfl); (· intro w1 h1; exact CallsTo.q (c59 _ _ _ w1) h1))
    | ((first | (apply kR; (· exact rfl); (· exact rfl)) | (apply kQ; (· exact rfl))); all_goals (intro hc; try simp only [decide_eq_true_eq, decide_eq_false_iff_not, Bool.not_eq_true', Bool.not_eq_false', Bool.not_eq_true, Bool.not_eq_false, Bool.not_true, Bool.not_false, Int.not_lt, Int.not_le, List.cons.injEq, and_true, beq_iff_eq, beq_eq_false_iff_ne] at hc; try (exfalso; first | contradiction | omega)))
    )
  all_goals (
    (apply ret1; (· exact rfl); intro w' hS)
    refine ⟨congrArg Value.bool ?_, hS.toKeep⟩
    simp_all [withinB_iff] <;> (intros; omega))

theorem rule_known {K : Nat} (hU : UnpC 23 K) (m : Msg) (a : Option Addr) (c : Nat) (h1 : 1 ≤ m.kind) (h5 : m.kind ≤ 5) (hz : a = none → c = 0) (hm : m.body.length ≤ 140737488355328) (hb : Byt m.body) (hK : m.body.length ≤ K) :
    ∃ j g, findI m.kind ruleL 0 = some (j, .func (.func g) #[] #[]) ∧ Own Try.prog g ∧ ∀ w1, Rd w1 a (bv m.body) → CallsTo Try.prog g [m.val a c] w1 fun v w' => v = .bool (kindB (unpackF K) m) ∧ Grew w1 w' := by
  have : m.kind = 1 ∨ m.kind = 2 ∨ m.kind = 3 ∨ m.kind = 4 ∨ m.kind = 5 := by omega
  unfold kindB
  rcases this with h | h | h | h | h <;> simp only [h, findI, ruleL]
  · exact ⟨0, 90, rfl, inferInstance, fun w1 _ => by simpa using c90 m a c w1⟩
  · exact ⟨1, 91, rfl, inferInstance, fun w1 _ => by simpa using c91 m a c w1⟩
  · exact ⟨2, 92, rfl, inferInstance, fun w1 _ => by simpa using c92 m a c w1⟩
  · exact ⟨3, 93, rfl, inferInstance, fun w1 hr => by simpa using c93 m a c w1 hr hz hm hb⟩
  · exact ⟨4, 94, rfl, inferInstance, fun w1 hr => by simpa using c94 hU m a c w1 hr hz hm hb hK⟩
theorem rule_none (m : Msg) (h : ¬ (1 ≤ m.kind ∧ m.kind ≤ 5)) : findI m.kind ruleL 0 = none := by
  have : ∀ x ∈ [1, 2, 3, 4, 5], m.kind ≠ x := by intro x hx; simp at hx; omega
  simp [findI, ruleL, this 1, this 2, this 3, this 4, this 5]

set_option maxHeartbeats 2000000 in
theorem c17 {K : Nat} (hU : UnpC 23 K) (m : Msg) (a : Option Addr) (c : Nat) (w : World) (hr : Rd w a (bv m.body)) (hz : a = none → c = 0) (hm : m.body.length ≤ 140737488355328) (hb : Byt m.body) (hK : m.body.length ≤ 160 → m.body.length ≤ K) :
    CallsTo Try.prog 17 [m.val a c] w fun v w' => v = .int .i64 (checkM (unpackF K) m) ∧ Grew w w' := by
  refine go_in (n := 54) (St.rd1 hr) Try.func17 rfl rfl ?_
  repeat' (
    first
    | (apply CW.reg_held (St w NoF [.own _ (.cells (m.cells a c).toArray 28 (0, 0)), rdA a (bv m.body)]); apply DW.quiet [1, 2]; (· kernel_rfl); (· exact fun _ h => h))
    | (
      first
      | (apply kp; iterate 2 exact rfl)
      | apply ja | apply jb | apply jg | apply jj | (apply je; exact rfl) | (apply jf; exact rfl) | apply jd | apply jh | apply ji | (apply jc; kernel_rfl) | apply jk | apply jl | apply jm | apply jn | apply jo | (apply jp; exact rfl) | apply jq | apply jr | apply js | apply jt | apply ju | apply jv | apply jw | apply kN | apply kM
      | (apply kf; iterate 2 exact rfl)
      | (apply ko; (· exact rfl); (· repeat (first | exact mH _ _ | apply mT)); iterate 2 exact rfl)
      | (apply ka; (· exact rfl); (· repeat (first | exact mH _ _ | apply mT)); iterate 2 exact rfl)
      | (apply kr; (· exact rfl); (· repeat (first | exact mH _ _ | apply mT)); iterate 3 exact rfl)
      | (apply ks; (· exact rfl); (· repeat (first | exact mH _ _ | apply mT)); iterate 2 exact rfl)
      | (apply kn; iterate 2 exact rfl)
      | (apply ke; iterate 2 exact rfl)
      | (apply kx; iterate 2 exact rfl)
      | (apply kc; iterate 2 exact rfl)
      | (apply kb; iterate 2 exact rfl)
      | (apply kg; iterate 2 exact rfl)
      | (apply kG; iterate 3 exact rfl)
      | (apply kB; (iterate 2 exact rfl); intro _)
      | (apply kA; exact rfl; intro _)
      | (apply kL; (iterate 3 exact rfl); (· repeat (first | exact BS.nil _ | (apply BS.int; exact rfl) | (apply BS.ptr; exact rfl) | (apply BS.slice; exact rfl) | (apply BS.agg; iterate 2 exact rfl))); intro _)
      | (apply kT; (iterate 2 exact rfl); (· repeat (first | exact sH _ _ _ | apply sT)); iterate 2 exact rfl)
      | (apply kS; (iterate 2 exact rfl); (· repeat (first | exact sH _ _ _ | apply sT)); exact rfl)
      | (apply kh; (iterate 2 exact rfl); (first | decide | omega); exact rfl)
      | (apply kl; (iterate 2 exact rfl); (first | decide | omega); exact rfl)
      )
    | ((first | (apply kR; (· exact rfl); (· exact rfl)) | (apply kQ; (· exact rfl))); all_goals (intro hc; try simp only [decide_eq_true_eq, decide_eq_false_iff_not, Bool.not_eq_true', Bool.not_eq_false', Bool.not_eq_true, Bool.not_eq_false, Bool.not_true, Bool.not_false, Int.not_lt, Int.not_le, List.cons.injEq, and_true, beq_iff_eq, beq_eq_false_iff_ne] at hc; try (exfalso; first | contradiction | omega)))
    )
  · (apply ret1; (· exact rfl); intro w' hS)
    refine ⟨congrArg (Value.int .i64) ?_, hS.toKeep⟩
    unfold checkM; rw [if_pos (by omega)]
  rename _ => h160
  repeat' (
    first
    | (apply yp; iterate 3 exact rfl)
    | (apply QL.ev; exact rfl
       · first
         | (apply Ev.load_own; (· exact rfl); (· repeat (first | exact mH _ _ | apply mT)); exact rfl)
         | (apply Ev.load_agg; (· exact rfl); (· repeat (first | exact mH _ _ | apply mT)); exact rfl)
         | (apply Ev.load_rdq; (· exact rfl); (· repeat (first | exact mH _ _ | apply mT)); iterate 2 exact rfl)
         | (apply Ev.load_ardq; (· exact rfl); (· repeat (first | exact mH _ _ | apply mT)); exact rfl)
         | (apply Ev.fieldAddr; exact rfl)
         | (apply Ev.len; exact rfl)
         | (apply EqOf.eq; exact rfl)
         | (apply EqOf.ne; exact rfl)
         | (apply Ev.conv; exact rfl)
         | (apply Ev.buildN; exact rfl)
         | (apply Ev.shr; (iterate 2 exact rfl); first | decide | omega)
         | (apply Ev.shl; (iterate 2 exact rfl); first | decide | omega)
       · exact rfl)
    | (apply yq; iterate 5 exact rfl)
    | (apply QL.evg; iterate 3 exact rfl
       · first
         | (apply Ev.load_own; (· exact rfl); (· repeat (first | exact mH _ _ | apply mT)); exact rfl)
         | (apply Ev.load_agg; (· exact rfl); (· repeat (first | exact mH _ _ | apply mT)); exact rfl)
         | (apply Ev.load_rdq; (· exact rfl); (· repeat (first | exact mH _ _ | apply mT)); iterate 2 exact rfl)
         | (apply Ev.load_ardq; (· exact rfl); (· repeat (first | exact mH _ _ | apply mT)); exact rfl)
         | (apply Ev.fieldAddr; exact rfl)
         | (apply Ev.len; exact rfl)
         | (apply EqOf.eq; exact rfl)
         | (apply EqOf.ne; exact rfl)
         | (apply Ev.conv; exact rfl)
         | (apply Ev.buildN; exact rfl)
         | (apply Ev.shr; (iterate 2 exact rfl); first | decide | omega)
         | (apply Ev.shl; (iterate 2 exact rfl); first | decide | omega)
       · exact rfl)
    | (apply yn; iterate 4 exact rfl)
    | apply QL.nil
    )
  apply DW.loud 0; (· exact rfl); (· kernel_rfl)
  apply LR.call
  · exact rfl
  intro w1 h1
  refine (c58 w1).mono ?_
  rintro v w2 ⟨bm, rfl, hn⟩
  refine LR.back (h1.got hn (Asrt.dep_own _ _)) ?_
  clear hn h1
  apply LR.nil
  refine At.stage (fun _ h => h.tail1) (fun _ h => h) ?_
  apply DW.quiet [3, 4, 5, 6, 7, 8]; (· kernel_rfl); (· exact fun _ h => h)
  have hKK := hK (by omega)
  by_cases hk : 1 ≤ m.kind ∧ m.kind ≤ 5
  · obtain ⟨j, g, hf, hown, hrule⟩ := rule_known hU m a c hk.1 hk.2 hz hm hb hKK
    repeat' (
      first
      | (apply yp; iterate 3 exact rfl)
      | (apply QL.ev; exact rfl
         · first
           | (apply Ev.load_own; (· exact rfl); (· repeat (first | exact mH _ _ | apply mT)); exact rfl)
           | (apply Ev.load_agg; (· exact rfl); (· repeat (first | exact mH _ _ | apply mT)); exact rfl)
           | (apply Ev.load_rdq; (· exact rfl); (· repeat (first | exact mH _ _ | apply mT)); iterate 2 exact rfl)
           | (apply Ev.load_ardq; (· exact rfl); (· repeat (first | exact mH _ _ | apply mT)); exact rfl)
           | (apply Ev.fieldAddr; exact rfl)
           | (apply Ev.len; exact rfl)
           | (apply EqOf.eq; exact rfl)
           | (apply EqOf.ne; exact rfl)
           | (apply Ev.conv; exact rfl)
           | (apply Ev.buildN; exact rfl)
           | (apply Ev.shr; (iterate 2 exact rfl); first | decide | omega)
           | (apply Ev.shl; (iterate 2 exact rfl); first | decide | omega)
         · exact rfl)
      | (apply QL.ev; (· exact rfl); (· apply Ev.lookup_ok; (· exact rfl); (· exact rfl); (· exact List.Mem.head _); (· exact hf)); (· exact rfl))
      | (apply yq; iterate 5 exact rfl)
      | (apply QL.evg; iterate 3 exact rfl
         · first
           | (apply Ev.load_own; (· exact rfl); (· repeat (first | exact mH _ _ | apply mT)); exact rfl)
           | (apply Ev.load_agg; (· exact rfl); (· repeat (first | exact mH _ _ | apply mT)); exact rfl)
           | (apply Ev.load_rdq; (· exact rfl); (· repeat (first | exact mH _ _ | apply mT)); iterate 2 exact rfl)
           | (apply Ev.load_ardq; (· exact rfl); (· repeat (first | exact mH _ _ | apply mT)); exact rfl)
           | (apply Ev.fieldAddr; exact rfl)
           | (apply Ev.len; exact rfl)
           | (apply EqOf.eq; exact rfl)
           | (apply EqOf.ne; exact rfl)
           | (apply Ev.conv; exact rfl)
           | (apply Ev.buildN; exact rfl)
           | (apply Ev.shr; (iterate 2 exact rfl); first | decide | omega)
           | (apply Ev.shl; (iterate 2 exact rfl); first | decide | omega)
         · exact rfl)
      | (apply yn; iterate 4 exact rfl)
      | apply QL.nil
      )
    apply DW.done_thn
    · kernel_rfl
    repeat' (
      first
      | (
        first
        | (apply kp; iterate 2 exact rfl)
        | apply ja | apply jb | apply jg | apply jj | (apply je; exact rfl) | (apply jf; exact rfl) | apply jd | apply jh | apply ji | (apply jc; kernel_rfl) | apply jk | apply jl | apply jm | apply jn | apply jo | (apply jp; exact rfl) | apply jq | apply jr | apply js | apply jt | apply ju | apply jv | apply jw | apply kN | apply kM
        | (apply kf; iterate 2 exact rfl)
        | (apply ko; (· exact rfl); (· repeat (first | exact mH _ _ | apply mT)); iterate 2 exact rfl)
        | (apply ka; (· exact rfl); (· repeat (first | exact mH _ _ | apply mT)); iterate 2 exact rfl)
        | (apply kr; (· exact rfl); (· repeat (first | exact mH _ _ | apply mT)); iterate 3 exact rfl)
        | (apply ks; (· exact rfl); (· repeat (first | exact mH _ _ | apply mT)); iterate 2 exact rfl)
        | (apply kn; iterate 2 exact rfl)
        | (apply ke; iterate 2 exact rfl)
        | (apply kx; iterate 2 exact rfl)
        | (apply kc; iterate 2 exact rfl)
        | (apply kb; iterate 2 exact rfl)
        | (apply kg; iterate 2 exact rfl)
        | (apply kG; iterate 3 exact rfl)
        | (apply kB; (iterate 2 exact rfl); intro _)
        | (apply kA; exact rfl; intro _)
        | (apply kL; (iterate 3 exact rfl); (· repeat (first | exact BS.nil _ | (apply BS.int; exact rfl) | (apply BS.ptr; exact rfl) | (apply BS.slice; exact rfl) | (apply BS.agg; iterate 2 exact rfl))); intro _)
        | (apply kT; (iterate 2 exact rfl); (· repeat (first | exact sH _ _ _ | apply sT)); iterate 2 exact rfl)
        | (apply kS; (iterate 2 exact rfl); (· repeat (first | exact sH _ _ _ | apply sT)); exact rfl)
        | (apply kh; (iterate 2 exact rfl); (first | decide | omega); exact rfl)
        | (apply kl; (iterate 2 exact rfl); (first | decide | omega); exact rfl)
        )
      | (apply kq; (· exact rfl); (· intro w1 h1; exact CallsTo.q (c59 _ _ _ w1) h1))
      | (apply kq; (· exact rfl); (· intro w1 h1; exact CallsTo.q (c60 _ _ _ _ w1) h1))
      | (apply LR.qcall_fn (g := g); (· exact rfl); (· exact rfl); (· intro w1 h1; have hq := CallsTo.q (hrule w1 (h1.rd_of (List.Mem.tail _ (List.Mem.tail _ (List.Mem.head _))))) h1; show CallsTo Try.prog g [m.val a c] w1 _; exact hq))
      | ((first | (apply kR; (· exact rfl); (· exact rfl)) | (apply kQ; (· exact rfl))); all_goals (intro hc; try simp only [decide_eq_true_eq, decide_eq_false_iff_not, Bool.not_eq_true', Bool.not_eq_false', Bool.not_eq_true, Bool.not_eq_false, Bool.not_true, Bool.not_false, Int.not_lt, Int.not_le, List.cons.injEq, and_true, beq_iff_eq, beq_eq_false_iff_ne] at hc; try (exfalso; first | contradiction | omega)))
      )
    all_goals (
      (apply ret1; (· exact rfl); intro w' hS)
      refine ⟨congrArg (Value.int .i64) ?_, hS.toKeep⟩
      unfold checkM mayB
      rw [if_neg (by omega)]
      simp [*])
  · have hf := rule_none m hk
    repeat' (
      first
      | (apply yp; iterate 3 exact rfl)
      | (apply QL.ev; exact rfl
         · first
           | (apply Ev.load_own; (· exact rfl); (· repeat (first | exact mH _ _ | apply mT)); exact rfl)
           | (apply Ev.load_agg; (· exact rfl); (· repeat (first | exact mH _ _ | apply mT)); exact rfl)
           | (apply Ev.load_rdq; (· exact rfl); (· repeat (first | exact mH _ _ | apply mT)); iterate 2 exact rfl)
           | (apply Ev.load_ardq; (· exact rfl); (· repeat (first | exact mH _ _ | apply mT)); exact rfl)
           | (apply Ev.fieldAddr; exact rfl)
           | (apply Ev.len; exact rfl)
           | (apply EqOf.eq; exact rfl)
           | (apply EqOf.ne; exact rfl)
           | (apply Ev.conv; exact rfl)
           | (apply Ev.buildN; exact rfl)
           | (apply Ev.shr; (iterate 2 exact rfl); first | decide | omega)
           | (apply Ev.shl; (iterate 2 exact rfl); first | decide | omega)
         · exact rfl)
      | (apply QL.ev; (· exact rfl); (· apply Ev.lookup_ok; (· exact rfl); (· exact rfl); (· exact List.Mem.head _); (· exact hf)); (· exact rfl))
      | (apply yq; iterate 5 exact rfl)
      | (apply QL.evg; iterate 3 exact rfl
         · first
           | (apply Ev.load_own; (· exact rfl); (· repeat (first | exact mH _ _ | apply mT)); exact rfl)
           | (apply Ev.load_agg; (· exact rfl); (· repeat (first | exact mH _ _ | apply mT)); exact rfl)
           | (apply Ev.load_rdq; (· exact rfl); (· repeat (first | exact mH _ _ | apply mT)); iterate 2 exact rfl)
           | (apply Ev.load_ardq; (· exact rfl); (· repeat (first | exact mH _ _ | apply mT)); exact rfl)
           | (apply Ev.fieldAddr; exact rfl)
           | (apply Ev.len; exact rfl)
           | (apply EqOf.eq; exact rfl)
           | (apply EqOf.ne; exact rfl)
           | (apply Ev.conv; exact rfl)
           | (apply Ev.buildN; exact rfl)
           | (apply Ev.shr; (iterate 2 exact rfl); first | decide | omega)
           | (apply Ev.shl; (iterate 2 exact rfl); first | decide | omega)
         · exact rfl)
      | (apply yn; iterate 4 exact rfl)
      | apply QL.nil
      )
    apply DW.done_thn
    · kernel_rfl
    repeat' (
      first
      | (
        first
        | (apply kp; iterate 2 exact rfl)
        | apply ja | apply jb | apply jg | apply jj | (apply je; exact rfl) | (apply jf; exact rfl) | apply jd | apply jh | apply ji | (apply jc; kernel_rfl) | apply jk | apply jl | apply jm | apply jn | apply jo | (apply jp; exact rfl) | apply jq | apply jr | apply js | apply jt | apply ju | apply jv | apply jw | apply kN | apply kM
        | (apply kf; iterate 2 exact rfl)
        | (apply ko; (· exact rfl); (· repeat (first | exact mH _ _ | apply mT)); iterate 2 exact rfl)
        | (apply ka; (· exact rfl); (· repeat (first | exact mH _ _ | apply mT)); iterate 2 exact rfl)
        | (apply kr; (· exact rfl); (· repeat (first | exact mH _ _ | apply mT)); iterate 3 exact rfl)
        | (apply ks; (· exact rfl); (· repeat (first | exact mH _ _ | apply mT)); iterate 2 exact rfl)
        | (apply kn; iterate 2 exact rfl)
        | (apply ke; iterate 2 exact rfl)
        | (apply kx; iterate 2 exact rfl)
        | (apply kc; iterate 2 exact rfl)
        | (apply kb; iterate 2 exact rfl)
        | (apply kg; iterate 2 exact rfl)
        | (apply kG; iterate 3 exact rfl)
        | (apply kB; (iterate 2 exact rfl); intro _)
        | (apply kA; exact rfl; intro _)
        | (apply kL; (iterate 3 exact rfl); (· repeat (first | exact BS.nil _ | (apply BS.int; exact rfl) | (apply BS.ptr; exact rfl) | (apply BS.slice; exact rfl) | (apply BS.agg; iterate 2 exact rfl))); intro _)
        | (apply kT; (iterate 2 exact rfl); (· repeat (first | exact sH _ _ _ | apply sT)); iterate 2 exact rfl)
        | (apply kS; (iterate 2 exact rfl); (· repeat (first | exact sH _ _ _ | apply sT)); exact rfl)
        | (apply kh; (iterate 2 exact rfl); (first | decide | omega); exact rfl)
        | (apply kl; (iterate 2 exact rfl); (first | decide | omega); exact rfl)
        )
      | ((first | (apply kR; (· exact rfl); (· exact rfl)) | (apply kQ; (· exact rfl))); all_goals (intro hc; try simp only [decide_eq_true_eq, decide_eq_false_iff_not, Bool.not_eq_true', Bool.not_eq_false', Bool.not_eq_true, Bool.not_eq_false, Bool.not_true, Bool.not_false, Int.not_lt, Int.not_le, List.cons.injEq, and_true, beq_iff_eq, beq_eq_false_iff_ne] at hc; try (exfalso; first | contradiction | omega)))
      )
    all_goals (
      (apply ret1; (· exact rfl); intro w' hS)
      refine ⟨congrArg (Value.int .i64) ?_, hS.toKeep⟩
      unfold checkM mayB
      rw [if_neg (by omega)]
      simp [*])
end Go.Proofs.Ytomlgnncncjmaaa
