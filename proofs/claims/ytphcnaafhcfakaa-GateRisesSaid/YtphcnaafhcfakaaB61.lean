/-
  Calls of gates, told.
-/
import Derived.Test.YtphcnaafhcfakaaB4
import Derived.Test.YtphcnaafhcfakaaA31
-- all by hand
namespace Go.Proofs.Ytphcnaafhcfakaa
open Go.Hb Go.ChangeShapes Go.WideShapes
attribute [local irreducible] LR CW At Ev thn blk finK noG again CallsTo DW QL dnext TW
set_option linter.unusedSimpArgs false
set_option linter.unusedVariables false
set_option maxRecDepth 100000

structure Doo where
  kind : Int
  x : Itm
  ps : List Plc
def Doo.cells (d : Doo) (a : Option Addr) (c : Nat) (ak : Option Addr) (ck : Nat) : List Value := [.int .i64 d.kind, .int .i64 d.x.k.t, .int .i64 d.x.k.s, .int .i64 d.x.k.r, .int .i64 d.x.k.q, .int .i64 d.x.m.kind, .int .i64 d.x.m.origin, .int .i64 d.x.m.life, .int .i64 d.x.m.id, .int .i64 d.x.m.part, .int .i64 d.x.m.parts, .int .i64 d.x.m.groups, .bool d.x.m.safe, .int .i64 d.x.m.stamp, .int .i64 d.x.m.rseq, .int .i64 d.x.m.rrep, .int .i64 d.x.m.kseq, .slice a d.x.m.body.length c, .int .i64 d.x.p.ring, .int .i64 d.x.p.seq, .int .i64 d.x.p.rep, .int .i64 d.x.p.members, .slice ak d.ps.length ck]
def Doo.val (d : Doo) (a : Option Addr) (c : Nat) (ak : Option Addr) (ck : Nat) : Value := .agg (d.cells a c ak ck).toArray
theorem g41 (d : Doo) (a : Option Addr) (c : Nat) (ak : Option Addr) (ck : Nat) (w : World) : CallsTo Try.prog 41 [d.val a c ak ck] w fun v w' => v = .int .i64 (bring d.kind 6) ∧ Grew w w' := by
  refine go_in (n := 12) (St.refl _ NoF) Try.func41 rfl rfl ?_
  have hb := tmod_bd d.kind 6 (by omega)
  repeat' (
    first
    | (
      first
      | (apply kp; iterate 2 exact rfl)
      | apply ja | apply jb | apply jg | apply jj | (apply je; exact rfl) | (apply jf; exact rfl) | apply jd | apply jh | apply ji | (apply jc; kernel_rfl) | apply jk | apply jl | apply jm | apply jn | apply jo | (apply jp; exact rfl) | apply jq | apply jr | apply js | apply jt | apply ju | apply jv | apply jw | apply kN | apply kM
      | (apply kf; iterate 2 exact rfl)
      | (apply ko; (· exact rfl); (· repeat (first | exact mH _ _ | apply mT)); iterate 2 exact rfl)
      | (apply ka; (· exact rfl); (· repeat (first | exact mH _ _ | apply mT)); iterate 2 exact rfl)
      | (apply kr; (· exact rfl); (· repeat (first | exact mH _ _ | apply mT)); iterate 3 exact rfl)
      | (apply ks; (· exact rfl); (· repeat (first | exact mH _ _ | apply mT)); iterate 2 exact rfl)
      | (apply kn; iterate 2 exact rfl)
      | (apply ke; iterate 2 exact rfl)
      | (apply kx; iterate 2 exact rfl)
      | (apply kc; iterate 2 exact rfl)
      | (apply kb; iterate 2 exact rfl)
      | (apply kg; iterate 2 exact rfl)
      | (apply kG; iterate 3 exact rfl)
      | (apply kB; (iterate 2 exact rfl); intro _)
      | (apply kA; exact rfl; intro _)
      | (apply kL; (iterate 3 exact rfl); (· repeat (first | exact BS.nil _ | (apply BS.int; exact rfl) | (apply BS.ptr; exact rfl) | (apply BS.slice; exact rfl) | (apply BS.agg; iterate 2 exact rfl))); intro _)
      | (apply kT; (iterate 2 exact rfl); (· repeat (first | exact sH _ _ _ | apply sT)); iterate 2 exact rfl)
      | (apply kS; (iterate 2 exact rfl); (· repeat (first | exact sH _ _ _ | apply sT)); exact rfl)
      | (apply kh; (iterate 2 exact rfl); (first | decide | omega); exact rfl)
      | (apply kl; (iterate 2 exact rfl); (first | decide | omega); exact rfl)
      )
    | (apply LR.ev; (· apply Ev.rem; (· exact rfl); (· exact rfl); (· first | decide | omega)); (· exact rfl))
    | (apply LR.ev; (· apply Ev.add; (· exact rfl); (· exact rfl); (· first | omega | (dsimp only; omega)); (· first | omega | (dsimp only; omega))); (· exact rfl))
    | ((first | (apply kR; (· exact rfl); (· exact rfl)) | (apply kQ; (· exact rfl))); all_goals (intro hc; try simp only [decide_eq_true_eq, decide_eq_false_iff_not, Bool.not_eq_true', Bool.not_eq_false', Bool.not_eq_true, Bool.not_eq_false, Bool.not_true, Bool.not_false, Int.not_lt, Int.not_le, List.cons.injEq, and_true, beq_iff_eq, beq_eq_false_iff_ne] at hc; try (exfalso; first | contradiction | omega)))
    )
  all_goals (
    (apply ret1; (· exact rfl); intro w' hS)
    refine ⟨congrArg (Value.int .i64) ?_, hS.toKeep⟩
    unfold bring; rw [if_neg (by omega)]
    first | rw [if_pos (by omega)] | rw [if_neg (by omega)])
end Go.Proofs.Ytphcnaafhcfakaa
