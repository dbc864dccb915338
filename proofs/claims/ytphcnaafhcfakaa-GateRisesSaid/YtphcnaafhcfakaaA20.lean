/-
  Same, SamePlaces, the chapter's messages, awake.
-/
import Derived.Test.YtphcnaafhcfakaaA19
import Derived.Test.YtphcnaafhcfakaaA2
-- all by hand
namespace Go.Proofs.Ytphcnaafhcfakaa
open Go.Hb
attribute [local irreducible] LR CW At Ev thn blk finK noG again CallsTo DW QL dnext
set_option linter.unusedSimpArgs false
set_option linter.unusedVariables false
set_option maxRecDepth 100000

def sameB (x y : Msg) : Bool := decide (x.kind = y.kind ∧ x.origin = y.origin ∧ x.life = y.life ∧ x.id = y.id ∧ x.part = y.part ∧ x.parts = y.parts ∧ x.groups = y.groups ∧ x.safe = y.safe ∧ [x.stamp, x.rseq, x.rrep, x.kseq] = [y.stamp, y.rseq, y.rrep, y.kseq] ∧ x.body = y.body)
theorem sameB_iff (x y : Msg) : sameB x y = true ↔ x = y := by
  obtain ⟨x1, x2, x3, x4, x5, x6, x7, x8, x9, x10, x11, x12, x13⟩ := x
  obtain ⟨y1, y2, y3, y4, y5, y6, y7, y8, y9, y10, y11, y12, y13⟩ := y
  simp [sameB, and_assoc]
theorem sameB_self (x : Msg) : sameB x x = true := (sameB_iff x x).2 rfl

theorem Ev.buildV {P : Program} {C : World → Prop} {f : Frm} {T T' : TypeId} {parts : List (Nat × Operand)} {zero cs : List Value} {places : List (Nat × Nat)} [h : Build P T' zero places]
    (hv : (wfParts places zero.length (parts.map fun q => (q.1, f.ev q.2)), fillL places zero (parts.map fun q => (q.1, f.ev q.2))) = (true, cs)) : Ev P C f (.build T' parts.toArray) T (.agg cs.toArray) := by
  have h1 : wfParts places zero.length (parts.map fun q => (q.1, f.ev q.2)) = true := congrArg Prod.fst hv
  have h2 : fillL places zero (parts.map fun q => (q.1, f.ev q.2)) = cs := congrArg Prod.snd hv
  rw [← h2]
  exact Ev.build h1
set_option maxHeartbeats 2000000 in
theorem c20 (x y : Msg) (a b : Option Addr) (c d : Nat) (w : World) (hx : Rd w a (bv x.body)) (hy : Rd w b (bv y.body)) (hm : x.body.length ≤ 140737488355328) :
    CallsTo Try.prog 17 [x.val a c, y.val b d] w fun v w' => v = .bool (sameB x y) ∧ Grew w w' := by
  refine go_in (n := 73) (St.rd2 hx hy) Try.func17 rfl rfl ?_
  repeat' (
    first
    | (
      first
      | (apply kp; iterate 2 exact rfl)
      | apply ja | apply jb | apply jg | apply jj | (apply je; exact rfl) | (apply jf; exact rfl) | apply jd | apply jh | apply ji | (apply jc; kernel_rfl) | apply jk | apply jl | apply jm | apply jn | apply jo | (apply jp; exact rfl) | apply jq | apply jr | apply js | apply jt | apply ju | apply jv | apply jw | apply kN | apply kM
      | (apply kf; iterate 2 exact rfl)
      | (apply ko; (· exact rfl); (· repeat (first | exact mH _ _ | apply mT)); iterate 2 exact rfl)
      | (apply ka; (· exact rfl); (· repeat (first | exact mH _ _ | apply mT)); iterate 2 exact rfl)
      | (apply kr; (· exact rfl); (· repeat (first | exact mH _ _ | apply mT)); iterate 3 exact rfl)
      | (apply ks; (· exact rfl); (· repeat (first | exact mH _ _ | apply mT)); iterate 2 exact rfl)
      | (apply kn; iterate 2 exact rfl)
      | (apply ke; iterate 2 exact rfl)
      | (apply kx; iterate 2 exact rfl)
      | (apply kc; iterate 2 exact rfl)
      | (apply kb; iterate 2 exact rfl)
      | (apply kg; iterate 2 exact rfl)
      | (apply kG; iterate 3 exact rfl)
      | (apply kB; (iterate 2 exact rfl); intro _)
      | (apply kA; exact rfl; intro _)
      | (apply kL; (iterate 3 exact rfl); (· repeat (first | exact BS.nil _ | (apply BS.int; exact rfl) | (apply BS.ptr; exact rfl) | (apply BS.slice; exact rfl) | (apply BS.agg; iterate 2 exact rfl))); intro _)
      | (apply kT; (iterate 2 exact rfl); (· repeat (first | exact sH _ _ _ | apply sT)); iterate 2 exact rfl)
      | (apply kS; (iterate 2 exact rfl); (· repeat (first | exact sH _ _ _ | apply sT)); exact rfl)
      | (apply kh; (iterate 2 exact rfl); (first | decide | omega); exact rfl)
      | (apply kl; (iterate 2 exact rfl); (first | decide | omega); exact rfl)
      )
    | (apply LR.qcall; (· exact rfl); (· intro w1 h1; have hq := CallsTo.q (c19 a b c d x.body y.body w1 (h1.rd_of (List.Mem.tail _ (List.Mem.tail _ (List.Mem.head _)))) (h1.rd_of (List.Mem.tail _ (List.Mem.tail _ (List.Mem.tail _ (List.Mem.head _))))) (by omega)) h1; show CallsTo Try.prog 18 [.slice a x.body.length c, .slice b y.body.length d] w1 _; exact hq))
    | ((first | (apply kR; (· exact rfl); (· exact rfl)) | (apply kQ; (· exact rfl))); all_goals (intro hc; try simp only [decide_eq_true_eq, decide_eq_false_iff_not, Bool.not_eq_true', Bool.not_eq_false', Bool.not_eq_true, Bool.not_eq_false, Bool.not_true, Bool.not_false, Int.not_lt, Int.not_le, List.cons.injEq, and_true, beq_iff_eq, beq_eq_false_iff_ne] at hc; try (exfalso; first | contradiction | omega)))
    )
  all_goals (
    (apply ret1; (· exact rfl); intro w' hS)
    refine ⟨congrArg Value.bool ?_, hS.toKeep⟩
    unfold sameB
    simp_all)

end Go.Proofs.Ytphcnaafhcfakaa
