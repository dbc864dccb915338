/-
  Gates of the program: made, asked, turned.
-/
import Derived.Test.YtphcnaafhcfakaaB1
import Derived.Test.YtphcnaafhcfakaaHb13
-- all by hand
namespace Go.Proofs.Ytphcnaafhcfakaa
open Go.Hb
attribute [local irreducible] LR CW At Ev thn blk finK noG again CallsTo DW QL dnext TW
set_option linter.unusedSimpArgs false
set_option linter.unusedVariables false
set_option maxRecDepth 100000

def zeroK : Ky := ⟨0, 0, 0, 0⟩
structure Gt where
  node : Int
  p : Ky
  w : Ky
  a : Ky
def Gt.cells (g : Gt) : List Value := [.int .i64 g.node, .int .i64 g.p.t, .int .i64 g.p.s, .int .i64 g.p.r, .int .i64 g.p.q, .int .i64 g.w.t, .int .i64 g.w.s, .int .i64 g.w.r, .int .i64 g.w.q, .int .i64 g.a.t, .int .i64 g.a.s, .int .i64 g.a.r, .int .i64 g.a.q]
abbrev gO (T b : Nat) (g : Gt) : Asrt := .own b (.cells g.cells.toArray T (0, 0))
theorem gO_in {T b : Nat} {g : Gt} {w : World} (h : w.heap[b]? = some (.cells g.cells.toArray T (0, 0))) : St w (gO T b g).foot [gO T b g] w :=
  St.one (a := gO T b g) h (fun k hk => by have hk : k = b := hk; subst hk; exact (Array.getElem?_eq_some_iff.1 h).1) (Asrt.dep_own _ _)

theorem g53 (b : Nat) (g : Gt) (w : World) (h : Rd w (some ⟨b, 0, none⟩) g.cells) : CallsTo Try.prog 53 [.pointer (some ⟨b, 0, none⟩)] w fun v w' => v = .bool (decide (g.node = 0)) ∧ Grew w w' := by
  refine go_in (n := 12) (St.rd1 h) Try.func53 rfl rfl ?_
  repeat' (
    first
    | (
      first
      | (apply kp; iterate 2 exact rfl)
      | apply ja | apply jb | apply jg | apply jj | (apply je; exact rfl) | (apply jf; exact rfl) | apply jd | apply jh | apply ji | (apply jc; kernel_rfl) | apply jk | apply jl | apply jm | apply jn | apply jo | (apply jp; exact rfl) | apply jq | apply jr | apply js | apply jt | apply ju | apply jv | apply jw | apply kN | apply kM
      | (apply kf; iterate 2 exact rfl)
      | (apply ko; (· exact rfl); (· repeat (first | exact mH _ _ | apply mT)); iterate 2 exact rfl)
      | (apply ka; (· exact rfl); (· repeat (first | exact mH _ _ | apply mT)); iterate 2 exact rfl)
      | (apply kr; (· exact rfl); (· repeat (first | exact mH _ _ | apply mT)); iterate 3 exact rfl)
      | (apply ks; (· exact rfl); (· repeat (first | exact mH _ _ | apply mT)); iterate 2 exact rfl)
      | (apply kn; iterate 2 exact rfl)
      | (apply ke; iterate 2 exact rfl)
      | (apply kx; iterate 2 exact rfl)
      | (apply kc; iterate 2 exact rfl)
      | (apply kb; iterate 2 exact rfl)
      | (apply kg; iterate 2 exact rfl)
      | (apply kG; iterate 3 exact rfl)
      | (apply kB; (iterate 2 exact rfl); intro _)
      | (apply kA; exact rfl; intro _)
      | (apply kL; (iterate 3 exact rfl); (· repeat (first | exact BS.nil _ | (apply BS.int; exact rfl) | (apply BS.ptr; exact rfl) | (apply BS.slice; exact rfl) | (apply BS.agg; iterate 2 exact rfl))); intro _)
      | (apply kT; (iterate 2 exact rfl); (· repeat (first | exact sH _ _ _ | apply sT)); iterate 2 exact rfl)
      | (apply kS; (iterate 2 exact rfl); (· repeat (first | exact sH _ _ _ | apply sT)); exact rfl)
      | (apply kh; (iterate 2 exact rfl); (first | decide | omega); exact rfl)
      | (apply kl; (iterate 2 exact rfl); (first | decide | omega); exact rfl)
      )
    | ((first | (apply kR; (· exact rfl); (· exact rfl)) | (apply kQ; (· exact rfl))); all_goals (intro hc; try simp only [decide_eq_true_eq, decide_eq_false_iff_not, Bool.not_eq_true', Bool.not_eq_false', Bool.not_eq_true, Bool.not_eq_false, Bool.not_true, Bool.not_false, Int.not_lt, Int.not_le, List.cons.injEq, and_true, beq_iff_eq, beq_eq_false_iff_ne] at hc; try (exfalso; first | contradiction | omega)))
    )
  (apply ret1; (· exact rfl); intro w' hS)
  exact ⟨rfl, hS.toKeep⟩
theorem g53n (w : World) : CallsTo Try.prog 53 [.pointer none] w fun v w' => v = .bool true ∧ Grew w w' := by
  refine go_in (n := 12) (St.refl _ NoF) Try.func53 rfl rfl ?_
  repeat' (
    first
    | (
      first
      | (apply kp; iterate 2 exact rfl)
      | apply ja | apply jb | apply jg | apply jj | (apply je; exact rfl) | (apply jf; exact rfl) | apply jd | apply jh | apply ji | (apply jc; kernel_rfl) | apply jk | apply jl | apply jm | apply jn | apply jo | (apply jp; exact rfl) | apply jq | apply jr | apply js | apply jt | apply ju | apply jv | apply jw | apply kN | apply kM
      | (apply kf; iterate 2 exact rfl)
      | (apply ko; (· exact rfl); (· repeat (first | exact mH _ _ | apply mT)); iterate 2 exact rfl)
      | (apply ka; (· exact rfl); (· repeat (first | exact mH _ _ | apply mT)); iterate 2 exact rfl)
      | (apply kr; (· exact rfl); (· repeat (first | exact mH _ _ | apply mT)); iterate 3 exact rfl)
      | (apply ks; (· exact rfl); (· repeat (first | exact mH _ _ | apply mT)); iterate 2 exact rfl)
      | (apply kn; iterate 2 exact rfl)
      | (apply ke; iterate 2 exact rfl)
      | (apply kx; iterate 2 exact rfl)
      | (apply kc; iterate 2 exact rfl)
      | (apply kb; iterate 2 exact rfl)
      | (apply kg; iterate 2 exact rfl)
      | (apply kG; iterate 3 exact rfl)
      | (apply kB; (iterate 2 exact rfl); intro _)
      | (apply kA; exact rfl; intro _)
      | (apply kL; (iterate 3 exact rfl); (· repeat (first | exact BS.nil _ | (apply BS.int; exact rfl) | (apply BS.ptr; exact rfl) | (apply BS.slice; exact rfl) | (apply BS.agg; iterate 2 exact rfl))); intro _)
      | (apply kT; (iterate 2 exact rfl); (· repeat (first | exact sH _ _ _ | apply sT)); iterate 2 exact rfl)
      | (apply kS; (iterate 2 exact rfl); (· repeat (first | exact sH _ _ _ | apply sT)); exact rfl)
      | (apply kh; (iterate 2 exact rfl); (first | decide | omega); exact rfl)
      | (apply kl; (iterate 2 exact rfl); (first | decide | omega); exact rfl)
      )
    | ((first | (apply kR; (· exact rfl); (· exact rfl)) | (apply kQ; (· exact rfl))); all_goals (intro hc; try simp only [decide_eq_true_eq, decide_eq_false_iff_not, Bool.not_eq_true', Bool.not_eq_false', Bool.not_eq_true, Bool.not_eq_false, Bool.not_true, Bool.not_false, Int.not_lt, Int.not_le, List.cons.injEq, and_true, beq_iff_eq, beq_eq_false_iff_ne] at hc; try (exfalso; first | contradiction | omega)))
    )
  (apply ret1; (· exact rfl); intro w' hS)
  exact ⟨rfl, hS.toKeep⟩
def owesB (g : Gt) : Bool := decide (g.node ≠ 0) && aboveB g.w g.p
theorem g56 (b : Nat) (g : Gt) (w : World) (h : Rd w (some ⟨b, 0, none⟩) g.cells) : CallsTo Try.prog 56 [.pointer (some ⟨b, 0, none⟩)] w fun v w' => v = .bool (owesB g) ∧ Grew w w' := by
  refine go_in (n := 17) (St.rd1 h) Try.func56 rfl rfl ?_
  repeat' (
    first
    | (apply CW.reg_heldC)
    | (
      first
      | (apply kp; iterate 2 exact rfl)
      | apply ja | apply jb | apply jg | apply jj | (apply je; exact rfl) | (apply jf; exact rfl) | apply jd | apply jh | apply ji | (apply jc; kernel_rfl) | apply jk | apply jl | apply jm | apply jn | apply jo | (apply jp; exact rfl) | apply jq | apply jr | apply js | apply jt | apply ju | apply jv | apply jw | apply kN | apply kM
      | (apply kf; iterate 2 exact rfl)
      | (apply ko; (· exact rfl); (· repeat (first | exact mH _ _ | apply mT)); iterate 2 exact rfl)
      | (apply ka; (· exact rfl); (· repeat (first | exact mH _ _ | apply mT)); iterate 2 exact rfl)
      | (apply kr; (· exact rfl); (· repeat (first | exact mH _ _ | apply mT)); iterate 3 exact rfl)
      | (apply ks; (· exact rfl); (· repeat (first | exact mH _ _ | apply mT)); iterate 2 exact rfl)
      | (apply kn; iterate 2 exact rfl)
      | (apply ke; iterate 2 exact rfl)
      | (apply kx; iterate 2 exact rfl)
      | (apply kc; iterate 2 exact rfl)
      | (apply kb; iterate 2 exact rfl)
      | (apply kg; iterate 2 exact rfl)
      | (apply kG; iterate 3 exact rfl)
      | (apply kB; (iterate 2 exact rfl); intro _)
      | (apply kA; exact rfl; intro _)
      | (apply kL; (iterate 3 exact rfl); (· repeat (first | exact BS.nil _ | (apply BS.int; exact rfl) | (apply BS.ptr; exact rfl) | (apply BS.slice; exact rfl) | (apply BS.agg; iterate 2 exact rfl))); intro _)
      | (apply kT; (iterate 2 exact rfl); (· repeat (first | exact sH _ _ _ | apply sT)); iterate 2 exact rfl)
      | (apply kS; (iterate 2 exact rfl); (· repeat (first | exact sH _ _ _ | apply sT)); exact rfl)
      | (apply kh; (iterate 2 exact rfl); (first | decide | omega); exact rfl)
      | (apply kl; (iterate 2 exact rfl); (first | decide | omega); exact rfl)
      )
    | ((first | (apply kR; (· exact rfl); (· exact rfl)) | (apply kQ; (· exact rfl))); all_goals (intro hc; try simp only [decide_eq_true_eq, decide_eq_false_iff_not, Bool.not_eq_true', Bool.not_eq_false', Bool.not_eq_true, Bool.not_eq_false, Bool.not_true, Bool.not_false, Int.not_lt, Int.not_le, List.cons.injEq, and_true, beq_iff_eq, beq_eq_false_iff_ne] at hc; try (exfalso; first | contradiction | omega)))
    )
  all_goals (
    apply DW.quiet [0]
    · decide +kernel
    · first | exact fun _ h => h | exact fun _ h => St.sub h (by repeat (first | exact List.Sublist.refl _ | apply List.Sublist.cons_cons | apply List.Sublist.cons))
    repeat' (
      first
      | (apply yp; iterate 3 exact rfl)
      | (apply QL.ev; exact rfl
         · first
           | (apply Ev.load_own; (· exact rfl); (· repeat (first | exact mH _ _ | apply mT)); exact rfl)
           | (apply Ev.load_agg; (· exact rfl); (· repeat (first | exact mH _ _ | apply mT)); exact rfl)
           | (apply Ev.load_rdq; (· exact rfl); (· repeat (first | exact mH _ _ | apply mT)); iterate 2 exact rfl)
           | (apply Ev.load_ardq; (· exact rfl); (· repeat (first | exact mH _ _ | apply mT)); exact rfl)
           | (apply Ev.fieldAddr; exact rfl)
           | (apply Ev.len; exact rfl)
           | (apply EqOf.eq; exact rfl)
           | (apply EqOf.ne; exact rfl)
           | (apply Ev.conv; exact rfl)
           | (apply Ev.buildN; exact rfl)
           | (apply Ev.shr; (iterate 2 exact rfl); first | decide | omega)
           | (apply Ev.shl; (iterate 2 exact rfl); first | decide | omega)
         · exact rfl)
      | (apply yq; iterate 5 exact rfl)
      | (apply QL.evg; iterate 3 exact rfl
         · first
           | (apply Ev.load_own; (· exact rfl); (· repeat (first | exact mH _ _ | apply mT)); exact rfl)
           | (apply Ev.load_agg; (· exact rfl); (· repeat (first | exact mH _ _ | apply mT)); exact rfl)
           | (apply Ev.load_rdq; (· exact rfl); (· repeat (first | exact mH _ _ | apply mT)); iterate 2 exact rfl)
           | (apply Ev.load_ardq; (· exact rfl); (· repeat (first | exact mH _ _ | apply mT)); exact rfl)
           | (apply Ev.fieldAddr; exact rfl)
           | (apply Ev.len; exact rfl)
           | (apply EqOf.eq; exact rfl)
           | (apply EqOf.ne; exact rfl)
           | (apply Ev.conv; exact rfl)
           | (apply Ev.buildN; exact rfl)
           | (apply Ev.shr; (iterate 2 exact rfl); first | decide | omega)
           | (apply Ev.shl; (iterate 2 exact rfl); first | decide | omega)
         · exact rfl)
      | (apply yn; iterate 4 exact rfl)
      | ((apply QL.split; (· exact rfl); (· exact rfl); (· exact rfl)); all_goals (intro hc; try simp only [decide_eq_true_eq, decide_eq_false_iff_not, Bool.not_eq_true', Bool.not_eq_false', Bool.not_eq_true, Bool.not_eq_false, Bool.not_true, Bool.not_false, Int.not_lt, Int.not_le, List.cons.injEq, and_true, beq_iff_eq, beq_eq_false_iff_ne] at hc; try (exfalso; first | contradiction | omega)))
      | apply QL.nil
      )
    all_goals (show DW _ _ _ _ _ _ _ _))
  all_goals (
    apply DW.loud 1
    · exact rfl
    · decide +kernel
    repeat' (
      first
      | (apply kg; iterate 2 exact rfl)
      | (apply kG; iterate 3 exact rfl)
      | apply kM
      | (
        first
        | (apply kp; iterate 2 exact rfl)
        | (apply ko; (· exact rfl); (· repeat (first | exact mH _ _ | apply mT)); iterate 2 exact rfl)
        | (apply ka; (· exact rfl); (· repeat (first | exact mH _ _ | apply mT)); iterate 2 exact rfl)
        | (apply kL; (iterate 3 exact rfl); (· repeat (first | exact BS.nil _ | (apply BS.int; exact rfl) | (apply BS.ptr; exact rfl) | (apply BS.slice; exact rfl) | (apply BS.agg; iterate 2 exact rfl))); intro _)
        | (apply kT; (iterate 2 exact rfl); (· repeat (first | exact sH _ _ _ | apply sT)); iterate 2 exact rfl)
        | (apply kS; (iterate 2 exact rfl); (· repeat (first | exact sH _ _ _ | apply sT)); exact rfl)
        | (apply kB; (iterate 2 exact rfl); intro _)
        | (apply kA; exact rfl; intro _)
        )
      | (apply kq; (· exact rfl); (· intro w1 h1; exact CallsTo.q (g53 b g w1 (h1.rd_of (by (repeat (first | exact mH _ _ | apply mT))))) h1))
      | (apply kq; (· exact rfl); (· intro w1 h1; exact CallsTo.q (g54 g.w g.p w1) h1))
      )
    all_goals (refine At.stage_same (fun _ h => St.sub h (by repeat (first | exact List.Sublist.refl _ | apply List.Sublist.cons_cons | apply List.Sublist.cons))) ?_))
  all_goals (
    apply DW.quiet [2, 3, 4, 5, 6, 7, 8, 9, 10, 11]
    · decide +kernel
    · first | exact fun _ h => h | exact fun _ h => St.sub h (by repeat (first | exact List.Sublist.refl _ | apply List.Sublist.cons_cons | apply List.Sublist.cons))
    repeat' (
      first
      | (apply yp; iterate 3 exact rfl)
      | (apply QL.ev; exact rfl
         · first
           | (apply Ev.load_own; (· exact rfl); (· repeat (first | exact mH _ _ | apply mT)); exact rfl)
           | (apply Ev.load_agg; (· exact rfl); (· repeat (first | exact mH _ _ | apply mT)); exact rfl)
           | (apply Ev.load_rdq; (· exact rfl); (· repeat (first | exact mH _ _ | apply mT)); iterate 2 exact rfl)
           | (apply Ev.load_ardq; (· exact rfl); (· repeat (first | exact mH _ _ | apply mT)); exact rfl)
           | (apply Ev.fieldAddr; exact rfl)
           | (apply Ev.len; exact rfl)
           | (apply EqOf.eq; exact rfl)
           | (apply EqOf.ne; exact rfl)
           | (apply Ev.conv; exact rfl)
           | (apply Ev.buildN; exact rfl)
           | (apply Ev.shr; (iterate 2 exact rfl); first | decide | omega)
           | (apply Ev.shl; (iterate 2 exact rfl); first | decide | omega)
         · exact rfl)
      | (apply yq; iterate 5 exact rfl)
      | (apply QL.evg; iterate 3 exact rfl
         · first
           | (apply Ev.load_own; (· exact rfl); (· repeat (first | exact mH _ _ | apply mT)); exact rfl)
           | (apply Ev.load_agg; (· exact rfl); (· repeat (first | exact mH _ _ | apply mT)); exact rfl)
           | (apply Ev.load_rdq; (· exact rfl); (· repeat (first | exact mH _ _ | apply mT)); iterate 2 exact rfl)
           | (apply Ev.load_ardq; (· exact rfl); (· repeat (first | exact mH _ _ | apply mT)); exact rfl)
           | (apply Ev.fieldAddr; exact rfl)
           | (apply Ev.len; exact rfl)
           | (apply EqOf.eq; exact rfl)
           | (apply EqOf.ne; exact rfl)
           | (apply Ev.conv; exact rfl)
           | (apply Ev.buildN; exact rfl)
           | (apply Ev.shr; (iterate 2 exact rfl); first | decide | omega)
           | (apply Ev.shl; (iterate 2 exact rfl); first | decide | omega)
         · exact rfl)
      | (apply yn; iterate 4 exact rfl)
      | ((apply QL.split; (· exact rfl); (· exact rfl); (· exact rfl)); all_goals (intro hc; try simp only [decide_eq_true_eq, decide_eq_false_iff_not, Bool.not_eq_true', Bool.not_eq_false', Bool.not_eq_true, Bool.not_eq_false, Bool.not_true, Bool.not_false, Int.not_lt, Int.not_le, List.cons.injEq, and_true, beq_iff_eq, beq_eq_false_iff_ne] at hc; try (exfalso; first | contradiction | omega)))
      | apply QL.nil
      )
    all_goals (show DW _ _ _ _ _ _ _ _))
  all_goals (
    apply DW.loud 12
    · exact rfl
    · decide +kernel
    repeat' (
      first
      | (apply kg; iterate 2 exact rfl)
      | (apply kG; iterate 3 exact rfl)
      | apply kM
      | (
        first
        | (apply kp; iterate 2 exact rfl)
        | (apply ko; (· exact rfl); (· repeat (first | exact mH _ _ | apply mT)); iterate 2 exact rfl)
        | (apply ka; (· exact rfl); (· repeat (first | exact mH _ _ | apply mT)); iterate 2 exact rfl)
        | (apply kL; (iterate 3 exact rfl); (· repeat (first | exact BS.nil _ | (apply BS.int; exact rfl) | (apply BS.ptr; exact rfl) | (apply BS.slice; exact rfl) | (apply BS.agg; iterate 2 exact rfl))); intro _)
        | (apply kT; (iterate 2 exact rfl); (· repeat (first | exact sH _ _ _ | apply sT)); iterate 2 exact rfl)
        | (apply kS; (iterate 2 exact rfl); (· repeat (first | exact sH _ _ _ | apply sT)); exact rfl)
        | (apply kB; (iterate 2 exact rfl); intro _)
        | (apply kA; exact rfl; intro _)
        )
      | (apply kq; (· exact rfl); (· intro w1 h1; exact CallsTo.q (g53 b g w1 (h1.rd_of (by (repeat (first | exact mH _ _ | apply mT))))) h1))
      | (apply kq; (· exact rfl); (· intro w1 h1; exact CallsTo.q (g54 g.w g.p w1) h1))
      )
    all_goals (refine At.stage_same (fun _ h => St.sub h (by repeat (first | exact List.Sublist.refl _ | apply List.Sublist.cons_cons | apply List.Sublist.cons))) ?_))
  all_goals (
    apply DW.quiet [13, 14]
    · decide +kernel
    · first | exact fun _ h => h | exact fun _ h => St.sub h (by repeat (first | exact List.Sublist.refl _ | apply List.Sublist.cons_cons | apply List.Sublist.cons))
    repeat' (
      first
      | (apply yp; iterate 3 exact rfl)
      | (apply QL.ev; exact rfl
         · first
           | (apply Ev.load_own; (· exact rfl); (· repeat (first | exact mH _ _ | apply mT)); exact rfl)
           | (apply Ev.load_agg; (· exact rfl); (· repeat (first | exact mH _ _ | apply mT)); exact rfl)
           | (apply Ev.load_rdq; (· exact rfl); (· repeat (first | exact mH _ _ | apply mT)); iterate 2 exact rfl)
           | (apply Ev.load_ardq; (· exact rfl); (· repeat (first | exact mH _ _ | apply mT)); exact rfl)
           | (apply Ev.fieldAddr; exact rfl)
           | (apply Ev.len; exact rfl)
           | (apply EqOf.eq; exact rfl)
           | (apply EqOf.ne; exact rfl)
           | (apply Ev.conv; exact rfl)
           | (apply Ev.buildN; exact rfl)
           | (apply Ev.shr; (iterate 2 exact rfl); first | decide | omega)
           | (apply Ev.shl; (iterate 2 exact rfl); first | decide | omega)
         · exact rfl)
      | (apply yq; iterate 5 exact rfl)
      | (apply QL.evg; iterate 3 exact rfl
         · first
           | (apply Ev.load_own; (· exact rfl); (· repeat (first | exact mH _ _ | apply mT)); exact rfl)
           | (apply Ev.load_agg; (· exact rfl); (· repeat (first | exact mH _ _ | apply mT)); exact rfl)
           | (apply Ev.load_rdq; (· exact rfl); (· repeat (first | exact mH _ _ | apply mT)); iterate 2 exact rfl)
           | (apply Ev.load_ardq; (· exact rfl); (· repeat (first | exact mH _ _ | apply mT)); exact rfl)
           | (apply Ev.fieldAddr; exact rfl)
           | (apply Ev.len; exact rfl)
           | (apply EqOf.eq; exact rfl)
           | (apply EqOf.ne; exact rfl)
           | (apply Ev.conv; exact rfl)
           | (apply Ev.buildN; exact rfl)
           | (apply Ev.shr; (iterate 2 exact rfl); first | decide | omega)
           | (apply Ev.shl; (iterate 2 exact rfl); first | decide | omega)
         · exact rfl)
      | (apply yn; iterate 4 exact rfl)
      | ((apply QL.split; (· exact rfl); (· exact rfl); (· exact rfl)); all_goals (intro hc; try simp only [decide_eq_true_eq, decide_eq_false_iff_not, Bool.not_eq_true', Bool.not_eq_false', Bool.not_eq_true, Bool.not_eq_false, Bool.not_true, Bool.not_false, Int.not_lt, Int.not_le, List.cons.injEq, and_true, beq_iff_eq, beq_eq_false_iff_ne] at hc; try (exfalso; first | contradiction | omega)))
      | apply QL.nil
      )
    all_goals (show DW _ _ _ _ _ _ _ _))
  all_goals (first | (apply DW.done_thn; (· decide +kernel)) | (apply DW.done; (· decide +kernel)))
  repeat' (
    first
    | (
      first
      | (apply kp; iterate 2 exact rfl)
      | apply ja | apply jb | apply jg | apply jj | (apply je; exact rfl) | (apply jf; exact rfl) | apply jd | apply jh | apply ji | (apply jc; kernel_rfl) | apply jk | apply jl | apply jm | apply jn | apply jo | (apply jp; exact rfl) | apply jq | apply jr | apply js | apply jt | apply ju | apply jv | apply jw | apply kN | apply kM
      | (apply kf; iterate 2 exact rfl)
      | (apply ko; (· exact rfl); (· repeat (first | exact mH _ _ | apply mT)); iterate 2 exact rfl)
      | (apply ka; (· exact rfl); (· repeat (first | exact mH _ _ | apply mT)); iterate 2 exact rfl)
      | (apply kr; (· exact rfl); (· repeat (first | exact mH _ _ | apply mT)); iterate 3 exact rfl)
      | (apply ks; (· exact rfl); (· repeat (first | exact mH _ _ | apply mT)); iterate 2 exact rfl)
      | (apply kn; iterate 2 exact rfl)
      | (apply ke; iterate 2 exact rfl)
      | (apply kx; iterate 2 exact rfl)
      | (apply kc; iterate 2 exact rfl)
      | (apply kb; iterate 2 exact rfl)
      | (apply kg; iterate 2 exact rfl)
      | (apply kG; iterate 3 exact rfl)
      | (apply kB; (iterate 2 exact rfl); intro _)
      | (apply kA; exact rfl; intro _)
      | (apply kL; (iterate 3 exact rfl); (· repeat (first | exact BS.nil _ | (apply BS.int; exact rfl) | (apply BS.ptr; exact rfl) | (apply BS.slice; exact rfl) | (apply BS.agg; iterate 2 exact rfl))); intro _)
      | (apply kT; (iterate 2 exact rfl); (· repeat (first | exact sH _ _ _ | apply sT)); iterate 2 exact rfl)
      | (apply kS; (iterate 2 exact rfl); (· repeat (first | exact sH _ _ _ | apply sT)); exact rfl)
      | (apply kh; (iterate 2 exact rfl); (first | decide | omega); exact rfl)
      | (apply kl; (iterate 2 exact rfl); (first | decide | omega); exact rfl)
      )
    | ((first | (apply kR; (· exact rfl); (· exact rfl)) | (apply kQ; (· exact rfl))); all_goals (intro hc; try simp only [decide_eq_true_eq, decide_eq_false_iff_not, Bool.not_eq_true', Bool.not_eq_false', Bool.not_eq_true, Bool.not_eq_false, Bool.not_true, Bool.not_false, Int.not_lt, Int.not_le, List.cons.injEq, and_true, beq_iff_eq, beq_eq_false_iff_ne] at hc; try (exfalso; first | contradiction | omega)))
    )
  all_goals (
    (apply ret1; (· exact rfl); intro w' hS)
    refine ⟨congrArg Value.bool ?_, hS.toKeep⟩
    simp_all [owesB])
def newG (node : Int) : Gt := ⟨node, zeroK, zeroK, zeroK⟩
theorem g31 (node : Int) (w : World) (h : 1 ≤ node ∧ node ≤ 8) : CallsTo Try.prog 31 [.int .i64 node] w fun v w' => ∃ b, v = .tuple [.pointer (some ⟨b, 0, none⟩), .int .i64 0].toArray ∧ New1 (gO 95 b (newG node)) w w' := by
  refine go_in (n := 13) (St.refl _ NoF) Try.func31 rfl rfl ?_
  repeat' (
    first
    | (
      first
      | (apply kp; iterate 2 exact rfl)
      | apply ja | apply jb | apply jg | apply jj | (apply je; exact rfl) | (apply jf; exact rfl) | apply jd | apply jh | apply ji | (apply jc; kernel_rfl) | apply jk | apply jl | apply jm | apply jn | apply jo | (apply jp; exact rfl) | apply jq | apply jr | apply js | apply jt | apply ju | apply jv | apply jw | apply kN | apply kM
      | (apply kf; iterate 2 exact rfl)
      | (apply ko; (· exact rfl); (· repeat (first | exact mH _ _ | apply mT)); iterate 2 exact rfl)
      | (apply ka; (· exact rfl); (· repeat (first | exact mH _ _ | apply mT)); iterate 2 exact rfl)
      | (apply kr; (· exact rfl); (· repeat (first | exact mH _ _ | apply mT)); iterate 3 exact rfl)
      | (apply ks; (· exact rfl); (· repeat (first | exact mH _ _ | apply mT)); iterate 2 exact rfl)
      | (apply kn; iterate 2 exact rfl)
      | (apply ke; iterate 2 exact rfl)
      | (apply kx; iterate 2 exact rfl)
      | (apply kc; iterate 2 exact rfl)
      | (apply kb; iterate 2 exact rfl)
      | (apply kg; iterate 2 exact rfl)
      | (apply kG; iterate 3 exact rfl)
      | (apply kB; (iterate 2 exact rfl); intro _)
      | (apply kA; exact rfl; intro _)
      | (apply kL; (iterate 3 exact rfl); (· repeat (first | exact BS.nil _ | (apply BS.int; exact rfl) | (apply BS.ptr; exact rfl) | (apply BS.slice; exact rfl) | (apply BS.agg; iterate 2 exact rfl))); intro _)
      | (apply kT; (iterate 2 exact rfl); (· repeat (first | exact sH _ _ _ | apply sT)); iterate 2 exact rfl)
      | (apply kS; (iterate 2 exact rfl); (· repeat (first | exact sH _ _ _ | apply sT)); exact rfl)
      | (apply kh; (iterate 2 exact rfl); (first | decide | omega); exact rfl)
      | (apply kl; (iterate 2 exact rfl); (first | decide | omega); exact rfl)
      )
    | ((first | (apply kR; (· exact rfl); (· exact rfl)) | (apply kQ; (· exact rfl))); all_goals (intro hc; try simp only [decide_eq_true_eq, decide_eq_false_iff_not, Bool.not_eq_true', Bool.not_eq_false', Bool.not_eq_true, Bool.not_eq_false, Bool.not_true, Bool.not_false, Int.not_lt, Int.not_le, List.cons.injEq, and_true, beq_iff_eq, beq_eq_false_iff_ne] at hc; try (exfalso; first | contradiction | omega)))
    )
  (apply ret2; (· exact rfl); intro w' hS)
  exact ⟨_, rfl, St.new1 hS rfl⟩
theorem g31n (node : Int) (w : World) (h : ¬ (1 ≤ node ∧ node ≤ 8)) : CallsTo Try.prog 31 [.int .i64 node] w fun v w' => v = .tuple [.pointer none, .int .i64 2].toArray ∧ Grew w w' := by
  refine go_in (n := 13) (St.refl _ NoF) Try.func31 rfl rfl ?_
  repeat' (
    first
    | (
      first
      | (apply kp; iterate 2 exact rfl)
      | apply ja | apply jb | apply jg | apply jj | (apply je; exact rfl) | (apply jf; exact rfl) | apply jd | apply jh | apply ji | (apply jc; kernel_rfl) | apply jk | apply jl | apply jm | apply jn | apply jo | (apply jp; exact rfl) | apply jq | apply jr | apply js | apply jt | apply ju | apply jv | apply jw | apply kN | apply kM
      | (apply kf; iterate 2 exact rfl)
      | (apply ko; (· exact rfl); (· repeat (first | exact mH _ _ | apply mT)); iterate 2 exact rfl)
      | (apply ka; (· exact rfl); (· repeat (first | exact mH _ _ | apply mT)); iterate 2 exact rfl)
      | (apply kr; (· exact rfl); (· repeat (first | exact mH _ _ | apply mT)); iterate 3 exact rfl)
      | (apply ks; (· exact rfl); (· repeat (first | exact mH _ _ | apply mT)); iterate 2 exact rfl)
      | (apply kn; iterate 2 exact rfl)
      | (apply ke; iterate 2 exact rfl)
      | (apply kx; iterate 2 exact rfl)
      | (apply kc; iterate 2 exact rfl)
      | (apply kb; iterate 2 exact rfl)
      | (apply kg; iterate 2 exact rfl)
      | (apply kG; iterate 3 exact rfl)
      | (apply kB; (iterate 2 exact rfl); intro _)
      | (apply kA; exact rfl; intro _)
      | (apply kL; (iterate 3 exact rfl); (· repeat (first | exact BS.nil _ | (apply BS.int; exact rfl) | (apply BS.ptr; exact rfl) | (apply BS.slice; exact rfl) | (apply BS.agg; iterate 2 exact rfl))); intro _)
      | (apply kT; (iterate 2 exact rfl); (· repeat (first | exact sH _ _ _ | apply sT)); iterate 2 exact rfl)
      | (apply kS; (iterate 2 exact rfl); (· repeat (first | exact sH _ _ _ | apply sT)); exact rfl)
      | (apply kh; (iterate 2 exact rfl); (first | decide | omega); exact rfl)
      | (apply kl; (iterate 2 exact rfl); (first | decide | omega); exact rfl)
      )
    | ((first | (apply kR; (· exact rfl); (· exact rfl)) | (apply kQ; (· exact rfl))); all_goals (intro hc; try simp only [decide_eq_true_eq, decide_eq_false_iff_not, Bool.not_eq_true', Bool.not_eq_false', Bool.not_eq_true, Bool.not_eq_false, Bool.not_true, Bool.not_false, Int.not_lt, Int.not_le, List.cons.injEq, and_true, beq_iff_eq, beq_eq_false_iff_ne] at hc; try (exfalso; first | contradiction | omega)))
    )
  all_goals (
    (apply ret2; (· exact rfl); intro w' hS)
    exact ⟨rfl, hS⟩)
def wantS (g : Gt) (k : Ky) : Gt := if aboveB k g.w = true then { g with w := k } else g
theorem g34 (b : Nat) (g : Gt) (k : Ky) (w : World) (h : w.heap[b]? = some (.cells g.cells.toArray 95 (0, 0))) (hn : g.node ≠ 0) : CallsTo Try.prog 34 [.pointer (some ⟨b, 0, none⟩), k.val] w fun v w' => Step (gO 95 b g) (gO 95 b (wantS g k)) w w' := by
  refine go_in (n := 19) (gO_in h) Try.func34 rfl rfl ?_
  repeat' (
    first
    | (apply CW.reg_heldC)
    | (
      first
      | (apply kp; iterate 2 exact rfl)
      | apply ja | apply jb | apply jg | apply jj | (apply je; exact rfl) | (apply jf; exact rfl) | apply jd | apply jh | apply ji | (apply jc; kernel_rfl) | apply jk | apply jl | apply jm | apply jn | apply jo | (apply jp; exact rfl) | apply jq | apply jr | apply js | apply jt | apply ju | apply jv | apply jw | apply kN | apply kM
      | (apply kf; iterate 2 exact rfl)
      | (apply ko; (· exact rfl); (· repeat (first | exact mH _ _ | apply mT)); iterate 2 exact rfl)
      | (apply ka; (· exact rfl); (· repeat (first | exact mH _ _ | apply mT)); iterate 2 exact rfl)
      | (apply kr; (· exact rfl); (· repeat (first | exact mH _ _ | apply mT)); iterate 3 exact rfl)
      | (apply ks; (· exact rfl); (· repeat (first | exact mH _ _ | apply mT)); iterate 2 exact rfl)
      | (apply kn; iterate 2 exact rfl)
      | (apply ke; iterate 2 exact rfl)
      | (apply kx; iterate 2 exact rfl)
      | (apply kc; iterate 2 exact rfl)
      | (apply kb; iterate 2 exact rfl)
      | (apply kg; iterate 2 exact rfl)
      | (apply kG; iterate 3 exact rfl)
      | (apply kB; (iterate 2 exact rfl); intro _)
      | (apply kA; exact rfl; intro _)
      | (apply kL; (iterate 3 exact rfl); (· repeat (first | exact BS.nil _ | (apply BS.int; exact rfl) | (apply BS.ptr; exact rfl) | (apply BS.slice; exact rfl) | (apply BS.agg; iterate 2 exact rfl))); intro _)
      | (apply kT; (iterate 2 exact rfl); (· repeat (first | exact sH _ _ _ | apply sT)); iterate 2 exact rfl)
      | (apply kS; (iterate 2 exact rfl); (· repeat (first | exact sH _ _ _ | apply sT)); exact rfl)
      | (apply kh; (iterate 2 exact rfl); (first | decide | omega); exact rfl)
      | (apply kl; (iterate 2 exact rfl); (first | decide | omega); exact rfl)
      )
    | ((first | (apply kR; (· exact rfl); (· exact rfl)) | (apply kQ; (· exact rfl))); all_goals (intro hc; try simp only [decide_eq_true_eq, decide_eq_false_iff_not, Bool.not_eq_true', Bool.not_eq_false', Bool.not_eq_true, Bool.not_eq_false, Bool.not_true, Bool.not_false, Int.not_lt, Int.not_le, List.cons.injEq, and_true, beq_iff_eq, beq_eq_false_iff_ne] at hc; try (exfalso; first | contradiction | omega)))
    )
  all_goals (
    apply DW.quiet [0]
    · decide +kernel
    · first | exact fun _ h => h | exact fun _ h => St.sub h (by repeat (first | exact List.Sublist.refl _ | apply List.Sublist.cons_cons | apply List.Sublist.cons))
    repeat' (
      first
      | (apply yp; iterate 3 exact rfl)
      | (apply QL.ev; exact rfl
         · first
           | (apply Ev.load_own; (· exact rfl); (· repeat (first | exact mH _ _ | apply mT)); exact rfl)
           | (apply Ev.load_agg; (· exact rfl); (· repeat (first | exact mH _ _ | apply mT)); exact rfl)
           | (apply Ev.load_rdq; (· exact rfl); (· repeat (first | exact mH _ _ | apply mT)); iterate 2 exact rfl)
           | (apply Ev.load_ardq; (· exact rfl); (· repeat (first | exact mH _ _ | apply mT)); exact rfl)
           | (apply Ev.fieldAddr; exact rfl)
           | (apply Ev.len; exact rfl)
           | (apply EqOf.eq; exact rfl)
           | (apply EqOf.ne; exact rfl)
           | (apply Ev.conv; exact rfl)
           | (apply Ev.buildN; exact rfl)
           | (apply Ev.shr; (iterate 2 exact rfl); first | decide | omega)
           | (apply Ev.shl; (iterate 2 exact rfl); first | decide | omega)
         · exact rfl)
      | (apply yq; iterate 5 exact rfl)
      | (apply QL.evg; iterate 3 exact rfl
         · first
           | (apply Ev.load_own; (· exact rfl); (· repeat (first | exact mH _ _ | apply mT)); exact rfl)
           | (apply Ev.load_agg; (· exact rfl); (· repeat (first | exact mH _ _ | apply mT)); exact rfl)
           | (apply Ev.load_rdq; (· exact rfl); (· repeat (first | exact mH _ _ | apply mT)); iterate 2 exact rfl)
           | (apply Ev.load_ardq; (· exact rfl); (· repeat (first | exact mH _ _ | apply mT)); exact rfl)
           | (apply Ev.fieldAddr; exact rfl)
           | (apply Ev.len; exact rfl)
           | (apply EqOf.eq; exact rfl)
           | (apply EqOf.ne; exact rfl)
           | (apply Ev.conv; exact rfl)
           | (apply Ev.buildN; exact rfl)
           | (apply Ev.shr; (iterate 2 exact rfl); first | decide | omega)
           | (apply Ev.shl; (iterate 2 exact rfl); first | decide | omega)
         · exact rfl)
      | (apply yn; iterate 4 exact rfl)
      | ((apply QL.split; (· exact rfl); (· exact rfl); (· exact rfl)); all_goals (intro hc; try simp only [decide_eq_true_eq, decide_eq_false_iff_not, Bool.not_eq_true', Bool.not_eq_false', Bool.not_eq_true, Bool.not_eq_false, Bool.not_true, Bool.not_false, Int.not_lt, Int.not_le, List.cons.injEq, and_true, beq_iff_eq, beq_eq_false_iff_ne] at hc; try (exfalso; first | contradiction | omega)))
      | apply QL.nil
      )
    all_goals (show DW _ _ _ _ _ _ _ _))
  all_goals (
    apply DW.loud 1
    · exact rfl
    · decide +kernel
    repeat' (
      first
      | (apply kg; iterate 2 exact rfl)
      | (apply kG; iterate 3 exact rfl)
      | apply kM
      | (
        first
        | (apply kp; iterate 2 exact rfl)
        | (apply ko; (· exact rfl); (· repeat (first | exact mH _ _ | apply mT)); iterate 2 exact rfl)
        | (apply ka; (· exact rfl); (· repeat (first | exact mH _ _ | apply mT)); iterate 2 exact rfl)
        | (apply kL; (iterate 3 exact rfl); (· repeat (first | exact BS.nil _ | (apply BS.int; exact rfl) | (apply BS.ptr; exact rfl) | (apply BS.slice; exact rfl) | (apply BS.agg; iterate 2 exact rfl))); intro _)
        | (apply kT; (iterate 2 exact rfl); (· repeat (first | exact sH _ _ _ | apply sT)); iterate 2 exact rfl)
        | (apply kS; (iterate 2 exact rfl); (· repeat (first | exact sH _ _ _ | apply sT)); exact rfl)
        | (apply kB; (iterate 2 exact rfl); intro _)
        | (apply kA; exact rfl; intro _)
        )
      | (apply kq; (· exact rfl); (· intro w1 h1; exact CallsTo.q (g53 b g w1 (h1.rd_of_blk (by (repeat (first | exact mH _ _ | apply mT))))) h1))
      | (apply kq; (· exact rfl); (· intro w1 h1; exact CallsTo.q (g54 k g.w w1) h1))
      )
    all_goals (refine At.stage_same (fun _ h => St.sub h (by repeat (first | exact List.Sublist.refl _ | apply List.Sublist.cons_cons | apply List.Sublist.cons))) ?_))
  all_goals (
    apply DW.quiet [2, 3, 4, 5, 6, 7, 8]
    · decide +kernel
    · first | exact fun _ h => h | exact fun _ h => St.sub h (by repeat (first | exact List.Sublist.refl _ | apply List.Sublist.cons_cons | apply List.Sublist.cons))
    repeat' (
      first
      | (apply yp; iterate 3 exact rfl)
      | (apply QL.ev; exact rfl
         · first
           | (apply Ev.load_own; (· exact rfl); (· repeat (first | exact mH _ _ | apply mT)); exact rfl)
           | (apply Ev.load_agg; (· exact rfl); (· repeat (first | exact mH _ _ | apply mT)); exact rfl)
           | (apply Ev.load_rdq; (· exact rfl); (· repeat (first | exact mH _ _ | apply mT)); iterate 2 exact rfl)
           | (apply Ev.load_ardq; (· exact rfl); (· repeat (first | exact mH _ _ | apply mT)); exact rfl)
           | (apply Ev.fieldAddr; exact rfl)
           | (apply Ev.len; exact rfl)
           | (apply EqOf.eq; exact rfl)
           | (apply EqOf.ne; exact rfl)
           | (apply Ev.conv; exact rfl)
           | (apply Ev.buildN; exact rfl)
           | (apply Ev.shr; (iterate 2 exact rfl); first | decide | omega)
           | (apply Ev.shl; (iterate 2 exact rfl); first | decide | omega)
         · exact rfl)
      | (apply yq; iterate 5 exact rfl)
      | (apply QL.evg; iterate 3 exact rfl
         · first
           | (apply Ev.load_own; (· exact rfl); (· repeat (first | exact mH _ _ | apply mT)); exact rfl)
           | (apply Ev.load_agg; (· exact rfl); (· repeat (first | exact mH _ _ | apply mT)); exact rfl)
           | (apply Ev.load_rdq; (· exact rfl); (· repeat (first | exact mH _ _ | apply mT)); iterate 2 exact rfl)
           | (apply Ev.load_ardq; (· exact rfl); (· repeat (first | exact mH _ _ | apply mT)); exact rfl)
           | (apply Ev.fieldAddr; exact rfl)
           | (apply Ev.len; exact rfl)
           | (apply EqOf.eq; exact rfl)
           | (apply EqOf.ne; exact rfl)
           | (apply Ev.conv; exact rfl)
           | (apply Ev.buildN; exact rfl)
           | (apply Ev.shr; (iterate 2 exact rfl); first | decide | omega)
           | (apply Ev.shl; (iterate 2 exact rfl); first | decide | omega)
         · exact rfl)
      | (apply yn; iterate 4 exact rfl)
      | ((apply QL.split; (· exact rfl); (· exact rfl); (· exact rfl)); all_goals (intro hc; try simp only [decide_eq_true_eq, decide_eq_false_iff_not, Bool.not_eq_true', Bool.not_eq_false', Bool.not_eq_true, Bool.not_eq_false, Bool.not_true, Bool.not_false, Int.not_lt, Int.not_le, List.cons.injEq, and_true, beq_iff_eq, beq_eq_false_iff_ne] at hc; try (exfalso; first | contradiction | omega)))
      | apply QL.nil
      )
    all_goals (show DW _ _ _ _ _ _ _ _))
  all_goals (
    apply DW.loud 9
    · exact rfl
    · decide +kernel
    repeat' (
      first
      | (apply kg; iterate 2 exact rfl)
      | (apply kG; iterate 3 exact rfl)
      | apply kM
      | (
        first
        | (apply kp; iterate 2 exact rfl)
        | (apply ko; (· exact rfl); (· repeat (first | exact mH _ _ | apply mT)); iterate 2 exact rfl)
        | (apply ka; (· exact rfl); (· repeat (first | exact mH _ _ | apply mT)); iterate 2 exact rfl)
        | (apply kL; (iterate 3 exact rfl); (· repeat (first | exact BS.nil _ | (apply BS.int; exact rfl) | (apply BS.ptr; exact rfl) | (apply BS.slice; exact rfl) | (apply BS.agg; iterate 2 exact rfl))); intro _)
        | (apply kT; (iterate 2 exact rfl); (· repeat (first | exact sH _ _ _ | apply sT)); iterate 2 exact rfl)
        | (apply kS; (iterate 2 exact rfl); (· repeat (first | exact sH _ _ _ | apply sT)); exact rfl)
        | (apply kB; (iterate 2 exact rfl); intro _)
        | (apply kA; exact rfl; intro _)
        )
      | (apply kq; (· exact rfl); (· intro w1 h1; exact CallsTo.q (g53 b g w1 (h1.rd_of_blk (by (repeat (first | exact mH _ _ | apply mT))))) h1))
      | (apply kq; (· exact rfl); (· intro w1 h1; exact CallsTo.q (g54 k g.w w1) h1))
      )
    all_goals (refine At.stage_same (fun _ h => St.sub h (by repeat (first | exact List.Sublist.refl _ | apply List.Sublist.cons_cons | apply List.Sublist.cons))) ?_))
  all_goals (
    apply DW.quiet [10]
    · decide +kernel
    · first | exact fun _ h => h | exact fun _ h => St.sub h (by repeat (first | exact List.Sublist.refl _ | apply List.Sublist.cons_cons | apply List.Sublist.cons))
    repeat' (
      first
      | (apply yp; iterate 3 exact rfl)
      | (apply QL.ev; exact rfl
         · first
           | (apply Ev.load_own; (· exact rfl); (· repeat (first | exact mH _ _ | apply mT)); exact rfl)
           | (apply Ev.load_agg; (· exact rfl); (· repeat (first | exact mH _ _ | apply mT)); exact rfl)
           | (apply Ev.load_rdq; (· exact rfl); (· repeat (first | exact mH _ _ | apply mT)); iterate 2 exact rfl)
           | (apply Ev.load_ardq; (· exact rfl); (· repeat (first | exact mH _ _ | apply mT)); exact rfl)
           | (apply Ev.fieldAddr; exact rfl)
           | (apply Ev.len; exact rfl)
           | (apply EqOf.eq; exact rfl)
           | (apply EqOf.ne; exact rfl)
           | (apply Ev.conv; exact rfl)
           | (apply Ev.buildN; exact rfl)
           | (apply Ev.shr; (iterate 2 exact rfl); first | decide | omega)
           | (apply Ev.shl; (iterate 2 exact rfl); first | decide | omega)
         · exact rfl)
      | (apply yq; iterate 5 exact rfl)
      | (apply QL.evg; iterate 3 exact rfl
         · first
           | (apply Ev.load_own; (· exact rfl); (· repeat (first | exact mH _ _ | apply mT)); exact rfl)
           | (apply Ev.load_agg; (· exact rfl); (· repeat (first | exact mH _ _ | apply mT)); exact rfl)
           | (apply Ev.load_rdq; (· exact rfl); (· repeat (first | exact mH _ _ | apply mT)); iterate 2 exact rfl)
           | (apply Ev.load_ardq; (· exact rfl); (· repeat (first | exact mH _ _ | apply mT)); exact rfl)
           | (apply Ev.fieldAddr; exact rfl)
           | (apply Ev.len; exact rfl)
           | (apply EqOf.eq; exact rfl)
           | (apply EqOf.ne; exact rfl)
           | (apply Ev.conv; exact rfl)
           | (apply Ev.buildN; exact rfl)
           | (apply Ev.shr; (iterate 2 exact rfl); first | decide | omega)
           | (apply Ev.shl; (iterate 2 exact rfl); first | decide | omega)
         · exact rfl)
      | (apply yn; iterate 4 exact rfl)
      | ((apply QL.split; (· exact rfl); (· exact rfl); (· exact rfl)); all_goals (intro hc; try simp only [decide_eq_true_eq, decide_eq_false_iff_not, Bool.not_eq_true', Bool.not_eq_false', Bool.not_eq_true, Bool.not_eq_false, Bool.not_true, Bool.not_false, Int.not_lt, Int.not_le, List.cons.injEq, and_true, beq_iff_eq, beq_eq_false_iff_ne] at hc; try (exfalso; first | contradiction | omega)))
      | apply QL.nil
      )
    all_goals (show DW _ _ _ _ _ _ _ _))
  all_goals (first | (apply DW.done_thn; (· decide +kernel)) | (apply DW.done; (· decide +kernel)))
  repeat' (
    first
    | (
      first
      | (apply kp; iterate 2 exact rfl)
      | apply ja | apply jb | apply jg | apply jj | (apply je; exact rfl) | (apply jf; exact rfl) | apply jd | apply jh | apply ji | (apply jc; kernel_rfl) | apply jk | apply jl | apply jm | apply jn | apply jo | (apply jp; exact rfl) | apply jq | apply jr | apply js | apply jt | apply ju | apply jv | apply jw | apply kN | apply kM
      | (apply kf; iterate 2 exact rfl)
      | (apply ko; (· exact rfl); (· repeat (first | exact mH _ _ | apply mT)); iterate 2 exact rfl)
      | (apply ka; (· exact rfl); (· repeat (first | exact mH _ _ | apply mT)); iterate 2 exact rfl)
      | (apply kr; (· exact rfl); (· repeat (first | exact mH _ _ | apply mT)); iterate 3 exact rfl)
      | (apply ks; (· exact rfl); (· repeat (first | exact mH _ _ | apply mT)); iterate 2 exact rfl)
      | (apply kn; iterate 2 exact rfl)
      | (apply ke; iterate 2 exact rfl)
      | (apply kx; iterate 2 exact rfl)
      | (apply kc; iterate 2 exact rfl)
      | (apply kb; iterate 2 exact rfl)
      | (apply kg; iterate 2 exact rfl)
      | (apply kG; iterate 3 exact rfl)
      | (apply kB; (iterate 2 exact rfl); intro _)
      | (apply kA; exact rfl; intro _)
      | (apply kL; (iterate 3 exact rfl); (· repeat (first | exact BS.nil _ | (apply BS.int; exact rfl) | (apply BS.ptr; exact rfl) | (apply BS.slice; exact rfl) | (apply BS.agg; iterate 2 exact rfl))); intro _)
      | (apply kT; (iterate 2 exact rfl); (· repeat (first | exact sH _ _ _ | apply sT)); iterate 2 exact rfl)
      | (apply kS; (iterate 2 exact rfl); (· repeat (first | exact sH _ _ _ | apply sT)); exact rfl)
      | (apply kh; (iterate 2 exact rfl); (first | decide | omega); exact rfl)
      | (apply kl; (iterate 2 exact rfl); (first | decide | omega); exact rfl)
      )
    | ((first | (apply kR; (· exact rfl); (· exact rfl)) | (apply kQ; (· exact rfl))); all_goals (intro hc; try simp only [decide_eq_true_eq, decide_eq_false_iff_not, Bool.not_eq_true', Bool.not_eq_false', Bool.not_eq_true, Bool.not_eq_false, Bool.not_true, Bool.not_false, Int.not_lt, Int.not_le, List.cons.injEq, and_true, beq_iff_eq, beq_eq_false_iff_ne] at hc; try (exfalso; first | contradiction | omega)))
    )
  all_goals (
    apply end0; (· exact rfl); intro w' hS
    first
    | (rw [show wantS g k = { g with w := k } by unfold wantS; rw [if_pos (by assumption)]]; exact (front hS 1 rfl rfl).step rfl)
    | (rw [show wantS g k = g by unfold wantS; rw [if_neg (by simp_all)]]; exact (front hS 1 rfl rfl).step rfl))
def markB (g : Gt) (k : Ky) : Bool := owesB g && decide (okK k) && !aboveB g.w k
def markS (g : Gt) (k : Ky) : Gt := if markB g k = true then { g with p := k } else g
def markM (g : Gt) (k : Ky) : Msg := if markB g k = true then ⟨2, g.node, 0, 0, 0, 0, 0, false, k.t, k.s, k.r, k.q, []⟩ else zeroMsg
set_option maxHeartbeats 1000000 in
theorem g37 (b : Nat) (g : Gt) (k : Ky) (w : World) (h : w.heap[b]? = some (.cells g.cells.toArray 95 (0, 0))) : CallsTo Try.prog 37 [.pointer (some ⟨b, 0, none⟩), k.val] w fun v w' => v = .tuple [(markM g k).val none 0, .bool (markB g k)].toArray ∧ Step (gO 95 b g) (gO 95 b (markS g k)) w w' := by
  refine go_in (n := 33) (gO_in h) Try.func37 rfl rfl ?_
  repeat' (
    first
    | (apply CW.reg_heldC)
    | (
      first
      | (apply kp; iterate 2 exact rfl)
      | apply ja | apply jb | apply jg | apply jj | (apply je; exact rfl) | (apply jf; exact rfl) | apply jd | apply jh | apply ji | (apply jc; kernel_rfl) | apply jk | apply jl | apply jm | apply jn | apply jo | (apply jp; exact rfl) | apply jq | apply jr | apply js | apply jt | apply ju | apply jv | apply jw | apply kN | apply kM
      | (apply kf; iterate 2 exact rfl)
      | (apply ko; (· exact rfl); (· repeat (first | exact mH _ _ | apply mT)); iterate 2 exact rfl)
      | (apply ka; (· exact rfl); (· repeat (first | exact mH _ _ | apply mT)); iterate 2 exact rfl)
      | (apply kr; (· exact rfl); (· repeat (first | exact mH _ _ | apply mT)); iterate 3 exact rfl)
      | (apply ks; (· exact rfl); (· repeat (first | exact mH _ _ | apply mT)); iterate 2 exact rfl)
      | (apply kn; iterate 2 exact rfl)
      | (apply ke; iterate 2 exact rfl)
      | (apply kx; iterate 2 exact rfl)
      | (apply kc; iterate 2 exact rfl)
      | (apply kb; iterate 2 exact rfl)
      | (apply kg; iterate 2 exact rfl)
      | (apply kG; iterate 3 exact rfl)
      | (apply kB; (iterate 2 exact rfl); intro _)
      | (apply kA; exact rfl; intro _)
      | (apply kL; (iterate 3 exact rfl); (· repeat (first | exact BS.nil _ | (apply BS.int; exact rfl) | (apply BS.ptr; exact rfl) | (apply BS.slice; exact rfl) | (apply BS.agg; iterate 2 exact rfl))); intro _)
      | (apply kT; (iterate 2 exact rfl); (· repeat (first | exact sH _ _ _ | apply sT)); iterate 2 exact rfl)
      | (apply kS; (iterate 2 exact rfl); (· repeat (first | exact sH _ _ _ | apply sT)); exact rfl)
      | (apply kh; (iterate 2 exact rfl); (first | decide | omega); exact rfl)
      | (apply kl; (iterate 2 exact rfl); (first | decide | omega); exact rfl)
      )
    | ((first | (apply kR; (· exact rfl); (· exact rfl)) | (apply kQ; (· exact rfl))); all_goals (intro hc; try simp only [decide_eq_true_eq, decide_eq_false_iff_not, Bool.not_eq_true', Bool.not_eq_false', Bool.not_eq_true, Bool.not_eq_false, Bool.not_true, Bool.not_false, Int.not_lt, Int.not_le, List.cons.injEq, and_true, beq_iff_eq, beq_eq_false_iff_ne] at hc; try (exfalso; first | contradiction | omega)))
    )
  all_goals (
    apply DW.quiet [0]
    · decide +kernel
    · first | exact fun _ h => h | exact fun _ h => St.sub h (by repeat (first | exact List.Sublist.refl _ | apply List.Sublist.cons_cons | apply List.Sublist.cons))
    repeat' (
      first
      | (apply yp; iterate 3 exact rfl)
      | (apply QL.ev; exact rfl
         · first
           | (apply Ev.load_own; (· exact rfl); (· repeat (first | exact mH _ _ | apply mT)); exact rfl)
           | (apply Ev.load_agg; (· exact rfl); (· repeat (first | exact mH _ _ | apply mT)); exact rfl)
           | (apply Ev.load_rdq; (· exact rfl); (· repeat (first | exact mH _ _ | apply mT)); iterate 2 exact rfl)
           | (apply Ev.load_ardq; (· exact rfl); (· repeat (first | exact mH _ _ | apply mT)); exact rfl)
           | (apply Ev.fieldAddr; exact rfl)
           | (apply Ev.len; exact rfl)
           | (apply EqOf.eq; exact rfl)
           | (apply EqOf.ne; exact rfl)
           | (apply Ev.conv; exact rfl)
           | (apply Ev.buildN; exact rfl)
           | (apply Ev.shr; (iterate 2 exact rfl); first | decide | omega)
           | (apply Ev.shl; (iterate 2 exact rfl); first | decide | omega)
         · exact rfl)
      | (apply yq; iterate 5 exact rfl)
      | (apply QL.evg; iterate 3 exact rfl
         · first
           | (apply Ev.load_own; (· exact rfl); (· repeat (first | exact mH _ _ | apply mT)); exact rfl)
           | (apply Ev.load_agg; (· exact rfl); (· repeat (first | exact mH _ _ | apply mT)); exact rfl)
           | (apply Ev.load_rdq; (· exact rfl); (· repeat (first | exact mH _ _ | apply mT)); iterate 2 exact rfl)
           | (apply Ev.load_ardq; (· exact rfl); (· repeat (first | exact mH _ _ | apply mT)); exact rfl)
           | (apply Ev.fieldAddr; exact rfl)
           | (apply Ev.len; exact rfl)
           | (apply EqOf.eq; exact rfl)
           | (apply EqOf.ne; exact rfl)
           | (apply Ev.conv; exact rfl)
           | (apply Ev.buildN; exact rfl)
           | (apply Ev.shr; (iterate 2 exact rfl); first | decide | omega)
           | (apply Ev.shl; (iterate 2 exact rfl); first | decide | omega)
         · exact rfl)
      | (apply yn; iterate 4 exact rfl)
      | ((apply QL.split; (· exact rfl); (· exact rfl); (· exact rfl)); all_goals (intro hc; try simp only [decide_eq_true_eq, decide_eq_false_iff_not, Bool.not_eq_true', Bool.not_eq_false', Bool.not_eq_true, Bool.not_eq_false, Bool.not_true, Bool.not_false, Int.not_lt, Int.not_le, List.cons.injEq, and_true, beq_iff_eq, beq_eq_false_iff_ne] at hc; try (exfalso; first | contradiction | omega)))
      | apply QL.nil
      )
    all_goals (show DW _ _ _ _ _ _ _ _))
  all_goals (
    apply DW.loud 1
    · exact rfl
    · decide +kernel
    repeat' (
      first
      | (apply kg; iterate 2 exact rfl)
      | (apply kG; iterate 3 exact rfl)
      | apply kM
      | (
        first
        | (apply kp; iterate 2 exact rfl)
        | (apply ko; (· exact rfl); (· repeat (first | exact mH _ _ | apply mT)); iterate 2 exact rfl)
        | (apply ka; (· exact rfl); (· repeat (first | exact mH _ _ | apply mT)); iterate 2 exact rfl)
        | (apply kL; (iterate 3 exact rfl); (· repeat (first | exact BS.nil _ | (apply BS.int; exact rfl) | (apply BS.ptr; exact rfl) | (apply BS.slice; exact rfl) | (apply BS.agg; iterate 2 exact rfl))); intro _)
        | (apply kT; (iterate 2 exact rfl); (· repeat (first | exact sH _ _ _ | apply sT)); iterate 2 exact rfl)
        | (apply kS; (iterate 2 exact rfl); (· repeat (first | exact sH _ _ _ | apply sT)); exact rfl)
        | (apply kB; (iterate 2 exact rfl); intro _)
        | (apply kA; exact rfl; intro _)
        )
      | (apply kq; (· exact rfl); (· intro w1 h1; exact CallsTo.q (g56 b g w1 (h1.rd_of_blk (by (repeat (first | exact mH _ _ | apply mT))))) h1))
      | (apply kq; (· exact rfl); (· intro w1 h1; exact CallsTo.q (g54 g.w k w1) h1))
      | (apply kq; (· exact rfl); (· intro w1 h1; exact CallsTo.q (c60 k.t k.s k.r k.q w1) h1))
      )
    all_goals (refine At.stage_same (fun _ h => St.sub h (by repeat (first | exact List.Sublist.refl _ | apply List.Sublist.cons_cons | apply List.Sublist.cons))) ?_))
  all_goals (
    apply DW.quiet [2, 3, 4]
    · decide +kernel
    · first | exact fun _ h => h | exact fun _ h => St.sub h (by repeat (first | exact List.Sublist.refl _ | apply List.Sublist.cons_cons | apply List.Sublist.cons))
    repeat' (
      first
      | (apply yp; iterate 3 exact rfl)
      | (apply QL.ev; exact rfl
         · first
           | (apply Ev.load_own; (· exact rfl); (· repeat (first | exact mH _ _ | apply mT)); exact rfl)
           | (apply Ev.load_agg; (· exact rfl); (· repeat (first | exact mH _ _ | apply mT)); exact rfl)
           | (apply Ev.load_rdq; (· exact rfl); (· repeat (first | exact mH _ _ | apply mT)); iterate 2 exact rfl)
           | (apply Ev.load_ardq; (· exact rfl); (· repeat (first | exact mH _ _ | apply mT)); exact rfl)
           | (apply Ev.fieldAddr; exact rfl)
           | (apply Ev.len; exact rfl)
           | (apply EqOf.eq; exact rfl)
           | (apply EqOf.ne; exact rfl)
           | (apply Ev.conv; exact rfl)
           | (apply Ev.buildN; exact rfl)
           | (apply Ev.shr; (iterate 2 exact rfl); first | decide | omega)
           | (apply Ev.shl; (iterate 2 exact rfl); first | decide | omega)
         · exact rfl)
      | (apply yq; iterate 5 exact rfl)
      | (apply QL.evg; iterate 3 exact rfl
         · first
           | (apply Ev.load_own; (· exact rfl); (· repeat (first | exact mH _ _ | apply mT)); exact rfl)
           | (apply Ev.load_agg; (· exact rfl); (· repeat (first | exact mH _ _ | apply mT)); exact rfl)
           | (apply Ev.load_rdq; (· exact rfl); (· repeat (first | exact mH _ _ | apply mT)); iterate 2 exact rfl)
           | (apply Ev.load_ardq; (· exact rfl); (· repeat (first | exact mH _ _ | apply mT)); exact rfl)
           | (apply Ev.fieldAddr; exact rfl)
           | (apply Ev.len; exact rfl)
           | (apply EqOf.eq; exact rfl)
           | (apply EqOf.ne; exact rfl)
           | (apply Ev.conv; exact rfl)
           | (apply Ev.buildN; exact rfl)
           | (apply Ev.shr; (iterate 2 exact rfl); first | decide | omega)
           | (apply Ev.shl; (iterate 2 exact rfl); first | decide | omega)
         · exact rfl)
      | (apply yn; iterate 4 exact rfl)
      | ((apply QL.split; (· exact rfl); (· exact rfl); (· exact rfl)); all_goals (intro hc; try simp only [decide_eq_true_eq, decide_eq_false_iff_not, Bool.not_eq_true', Bool.not_eq_false', Bool.not_eq_true, Bool.not_eq_false, Bool.not_true, Bool.not_false, Int.not_lt, Int.not_le, List.cons.injEq, and_true, beq_iff_eq, beq_eq_false_iff_ne] at hc; try (exfalso; first | contradiction | omega)))
      | apply QL.nil
      )
    all_goals (show DW _ _ _ _ _ _ _ _))
  all_goals (
    apply DW.loud 5
    · exact rfl
    · decide +kernel
    repeat' (
      first
      | (apply kg; iterate 2 exact rfl)
      | (apply kG; iterate 3 exact rfl)
      | apply kM
      | (
        first
        | (apply kp; iterate 2 exact rfl)
        | (apply ko; (· exact rfl); (· repeat (first | exact mH _ _ | apply mT)); iterate 2 exact rfl)
        | (apply ka; (· exact rfl); (· repeat (first | exact mH _ _ | apply mT)); iterate 2 exact rfl)
        | (apply kL; (iterate 3 exact rfl); (· repeat (first | exact BS.nil _ | (apply BS.int; exact rfl) | (apply BS.ptr; exact rfl) | (apply BS.slice; exact rfl) | (apply BS.agg; iterate 2 exact rfl))); intro _)
        | (apply kT; (iterate 2 exact rfl); (· repeat (first | exact sH _ _ _ | apply sT)); iterate 2 exact rfl)
        | (apply kS; (iterate 2 exact rfl); (· repeat (first | exact sH _ _ _ | apply sT)); exact rfl)
        | (apply kB; (iterate 2 exact rfl); intro _)
        | (apply kA; exact rfl; intro _)
        )
      | (apply kq; (· exact rfl); (· intro w1 h1; exact CallsTo.q (g56 b g w1 (h1.rd_of_blk (by (repeat (first | exact mH _ _ | apply mT))))) h1))
      | (apply kq; (· exact rfl); (· intro w1 h1; exact CallsTo.q (g54 g.w k w1) h1))
      | (apply kq; (· exact rfl); (· intro w1 h1; exact CallsTo.q (c60 k.t k.s k.r k.q w1) h1))
      )
    all_goals (refine At.stage_same (fun _ h => St.sub h (by repeat (first | exact List.Sublist.refl _ | apply List.Sublist.cons_cons | apply List.Sublist.cons))) ?_))
  all_goals (
    apply DW.quiet [6, 7, 8, 9, 10, 11, 12, 13]
    · decide +kernel
    · first | exact fun _ h => h | exact fun _ h => St.sub h (by repeat (first | exact List.Sublist.refl _ | apply List.Sublist.cons_cons | apply List.Sublist.cons))
    repeat' (
      first
      | (apply yp; iterate 3 exact rfl)
      | (apply QL.ev; exact rfl
         · first
           | (apply Ev.load_own; (· exact rfl); (· repeat (first | exact mH _ _ | apply mT)); exact rfl)
           | (apply Ev.load_agg; (· exact rfl); (· repeat (first | exact mH _ _ | apply mT)); exact rfl)
           | (apply Ev.load_rdq; (· exact rfl); (· repeat (first | exact mH _ _ | apply mT)); iterate 2 exact rfl)
           | (apply Ev.load_ardq; (· exact rfl); (· repeat (first | exact mH _ _ | apply mT)); exact rfl)
           | (apply Ev.fieldAddr; exact rfl)
           | (apply Ev.len; exact rfl)
           | (apply EqOf.eq; exact rfl)
           | (apply EqOf.ne; exact rfl)
           | (apply Ev.conv; exact rfl)
           | (apply Ev.buildN; exact rfl)
           | (apply Ev.shr; (iterate 2 exact rfl); first | decide | omega)
           | (apply Ev.shl; (iterate 2 exact rfl); first | decide | omega)
         · exact rfl)
      | (apply yq; iterate 5 exact rfl)
      | (apply QL.evg; iterate 3 exact rfl
         · first
           | (apply Ev.load_own; (· exact rfl); (· repeat (first | exact mH _ _ | apply mT)); exact rfl)
           | (apply Ev.load_agg; (· exact rfl); (· repeat (first | exact mH _ _ | apply mT)); exact rfl)
           | (apply Ev.load_rdq; (· exact rfl); (· repeat (first | exact mH _ _ | apply mT)); iterate 2 exact rfl)
           | (apply Ev.load_ardq; (· exact rfl); (· repeat (first | exact mH _ _ | apply mT)); exact rfl)
           | (apply Ev.fieldAddr; exact rfl)
           | (apply Ev.len; exact rfl)
           | (apply EqOf.eq; exact rfl)
           | (apply EqOf.ne; exact rfl)
           | (apply Ev.conv; exact rfl)
           | (apply Ev.buildN; exact rfl)
           | (apply Ev.shr; (iterate 2 exact rfl); first | decide | omega)
           | (apply Ev.shl; (iterate 2 exact rfl); first | decide | omega)
         · exact rfl)
      | (apply yn; iterate 4 exact rfl)
      | ((apply QL.split; (· exact rfl); (· exact rfl); (· exact rfl)); all_goals (intro hc; try simp only [decide_eq_true_eq, decide_eq_false_iff_not, Bool.not_eq_true', Bool.not_eq_false', Bool.not_eq_true, Bool.not_eq_false, Bool.not_true, Bool.not_false, Int.not_lt, Int.not_le, List.cons.injEq, and_true, beq_iff_eq, beq_eq_false_iff_ne] at hc; try (exfalso; first | contradiction | omega)))
      | apply QL.nil
      )
    all_goals (show DW _ _ _ _ _ _ _ _))
  all_goals (
    apply DW.loud 14
    · exact rfl
    · decide +kernel
    repeat' (
      first
      | (apply kg; iterate 2 exact rfl)
      | (apply kG; iterate 3 exact rfl)
      | apply kM
      | (
        first
        | (apply kp; iterate 2 exact rfl)
        | (apply ko; (· exact rfl); (· repeat (first | exact mH _ _ | apply mT)); iterate 2 exact rfl)
        | (apply ka; (· exact rfl); (· repeat (first | exact mH _ _ | apply mT)); iterate 2 exact rfl)
        | (apply kL; (iterate 3 exact rfl); (· repeat (first | exact BS.nil _ | (apply BS.int; exact rfl) | (apply BS.ptr; exact rfl) | (apply BS.slice; exact rfl) | (apply BS.agg; iterate 2 exact rfl))); intro _)
        | (apply kT; (iterate 2 exact rfl); (· repeat (first | exact sH _ _ _ | apply sT)); iterate 2 exact rfl)
        | (apply kS; (iterate 2 exact rfl); (· repeat (first | exact sH _ _ _ | apply sT)); exact rfl)
        | (apply kB; (iterate 2 exact rfl); intro _)
        | (apply kA; exact rfl; intro _)
        )
      | (apply kq; (· exact rfl); (· intro w1 h1; exact CallsTo.q (g56 b g w1 (h1.rd_of_blk (by (repeat (first | exact mH _ _ | apply mT))))) h1))
      | (apply kq; (· exact rfl); (· intro w1 h1; exact CallsTo.q (g54 g.w k w1) h1))
      | (apply kq; (· exact rfl); (· intro w1 h1; exact CallsTo.q (c60 k.t k.s k.r k.q w1) h1))
      )
    all_goals (refine At.stage_same (fun _ h => St.sub h (by repeat (first | exact List.Sublist.refl _ | apply List.Sublist.cons_cons | apply List.Sublist.cons))) ?_))
  all_goals (
    apply DW.quiet [15]
    · decide +kernel
    · first | exact fun _ h => h | exact fun _ h => St.sub h (by repeat (first | exact List.Sublist.refl _ | apply List.Sublist.cons_cons | apply List.Sublist.cons))
    repeat' (
      first
      | (apply yp; iterate 3 exact rfl)
      | (apply QL.ev; exact rfl
         · first
           | (apply Ev.load_own; (· exact rfl); (· repeat (first | exact mH _ _ | apply mT)); exact rfl)
           | (apply Ev.load_agg; (· exact rfl); (· repeat (first | exact mH _ _ | apply mT)); exact rfl)
           | (apply Ev.load_rdq; (· exact rfl); (· repeat (first | exact mH _ _ | apply mT)); iterate 2 exact rfl)
           | (apply Ev.load_ardq; (· exact rfl); (· repeat (first | exact mH _ _ | apply mT)); exact rfl)
           | (apply Ev.fieldAddr; exact rfl)
           | (apply Ev.len; exact rfl)
           | (apply EqOf.eq; exact rfl)
           | (apply EqOf.ne; exact rfl)
           | (apply Ev.conv; exact rfl)
           | (apply Ev.buildN; exact rfl)
           | (apply Ev.shr; (iterate 2 exact rfl); first | decide | omega)
           | (apply Ev.shl; (iterate 2 exact rfl); first | decide | omega)
         · exact rfl)
      | (apply yq; iterate 5 exact rfl)
      | (apply QL.evg; iterate 3 exact rfl
         · first
           | (apply Ev.load_own; (· exact rfl); (· repeat (first | exact mH _ _ | apply mT)); exact rfl)
           | (apply Ev.load_agg; (· exact rfl); (· repeat (first | exact mH _ _ | apply mT)); exact rfl)
           | (apply Ev.load_rdq; (· exact rfl); (· repeat (first | exact mH _ _ | apply mT)); iterate 2 exact rfl)
           | (apply Ev.load_ardq; (· exact rfl); (· repeat (first | exact mH _ _ | apply mT)); exact rfl)
           | (apply Ev.fieldAddr; exact rfl)
           | (apply Ev.len; exact rfl)
           | (apply EqOf.eq; exact rfl)
           | (apply EqOf.ne; exact rfl)
           | (apply Ev.conv; exact rfl)
           | (apply Ev.buildN; exact rfl)
           | (apply Ev.shr; (iterate 2 exact rfl); first | decide | omega)
           | (apply Ev.shl; (iterate 2 exact rfl); first | decide | omega)
         · exact rfl)
      | (apply yn; iterate 4 exact rfl)
      | ((apply QL.split; (· exact rfl); (· exact rfl); (· exact rfl)); all_goals (intro hc; try simp only [decide_eq_true_eq, decide_eq_false_iff_not, Bool.not_eq_true', Bool.not_eq_false', Bool.not_eq_true, Bool.not_eq_false, Bool.not_true, Bool.not_false, Int.not_lt, Int.not_le, List.cons.injEq, and_true, beq_iff_eq, beq_eq_false_iff_ne] at hc; try (exfalso; first | contradiction | omega)))
      | apply QL.nil
      )
    all_goals (show DW _ _ _ _ _ _ _ _))
  all_goals (first | (apply DW.done_thn; (· decide +kernel)) | (apply DW.done; (· decide +kernel)))
  repeat' (
    first
    | (apply CW.reg_held1)
    | (
      first
      | (apply kp; iterate 2 exact rfl)
      | apply ja | apply jb | apply jg | apply jj | (apply je; exact rfl) | (apply jf; exact rfl) | apply jd | apply jh | apply ji | (apply jc; kernel_rfl) | apply jk | apply jl | apply jm | apply jn | apply jo | (apply jp; exact rfl) | apply jq | apply jr | apply js | apply jt | apply ju | apply jv | apply jw | apply kN | apply kM
      | (apply kf; iterate 2 exact rfl)
      | (apply ko; (· exact rfl); (· repeat (first | exact mH _ _ | apply mT)); iterate 2 exact rfl)
      | (apply ka; (· exact rfl); (· repeat (first | exact mH _ _ | apply mT)); iterate 2 exact rfl)
      | (apply kr; (· exact rfl); (· repeat (first | exact mH _ _ | apply mT)); iterate 3 exact rfl)
      | (apply ks; (· exact rfl); (· repeat (first | exact mH _ _ | apply mT)); iterate 2 exact rfl)
      | (apply kn; iterate 2 exact rfl)
      | (apply ke; iterate 2 exact rfl)
      | (apply kx; iterate 2 exact rfl)
      | (apply kc; iterate 2 exact rfl)
      | (apply kb; iterate 2 exact rfl)
      | (apply kg; iterate 2 exact rfl)
      | (apply kG; iterate 3 exact rfl)
      | (apply kB; (iterate 2 exact rfl); intro _)
      | (apply kA; exact rfl; intro _)
      | (apply kL; (iterate 3 exact rfl); (· repeat (first | exact BS.nil _ | (apply BS.int; exact rfl) | (apply BS.ptr; exact rfl) | (apply BS.slice; exact rfl) | (apply BS.agg; iterate 2 exact rfl))); intro _)
      | (apply kT; (iterate 2 exact rfl); (· repeat (first | exact sH _ _ _ | apply sT)); iterate 2 exact rfl)
      | (apply kS; (iterate 2 exact rfl); (· repeat (first | exact sH _ _ _ | apply sT)); exact rfl)
      | (apply kh; (iterate 2 exact rfl); (first | decide | omega); exact rfl)
      | (apply kl; (iterate 2 exact rfl); (first | decide | omega); exact rfl)
      )
    | ((first | (apply kR; (· exact rfl); (· exact rfl)) | (apply kQ; (· exact rfl))); all_goals (intro hc; try simp only [decide_eq_true_eq, decide_eq_false_iff_not, Bool.not_eq_true', Bool.not_eq_false', Bool.not_eq_true, Bool.not_eq_false, Bool.not_true, Bool.not_false, Int.not_lt, Int.not_le, List.cons.injEq, and_true, beq_iff_eq, beq_eq_false_iff_ne] at hc; try (exfalso; first | contradiction | omega)))
    )
  rotate_right
  · skip
    all_goals (
      apply DW.quiet [0, 1, 2, 3, 4, 5]
      · decide +kernel
      · first | exact fun _ h => h | exact fun _ h => St.sub h (by repeat (first | exact List.Sublist.refl _ | apply List.Sublist.cons_cons | apply List.Sublist.cons))
      repeat' (
        first
        | (apply yp; iterate 3 exact rfl)
        | (apply QL.ev; exact rfl
           · first
             | (apply Ev.load_own; (· exact rfl); (· repeat (first | exact mH _ _ | apply mT)); exact rfl)
             | (apply Ev.load_agg; (· exact rfl); (· repeat (first | exact mH _ _ | apply mT)); exact rfl)
             | (apply Ev.load_rdq; (· exact rfl); (· repeat (first | exact mH _ _ | apply mT)); iterate 2 exact rfl)
             | (apply Ev.load_ardq; (· exact rfl); (· repeat (first | exact mH _ _ | apply mT)); exact rfl)
             | (apply Ev.fieldAddr; exact rfl)
             | (apply Ev.len; exact rfl)
             | (apply EqOf.eq; exact rfl)
             | (apply EqOf.ne; exact rfl)
             | (apply Ev.conv; exact rfl)
             | (apply Ev.buildN; exact rfl)
             | (apply Ev.shr; (iterate 2 exact rfl); first | decide | omega)
             | (apply Ev.shl; (iterate 2 exact rfl); first | decide | omega)
           · exact rfl)
        | (apply yq; iterate 5 exact rfl)
        | (apply QL.evg; iterate 3 exact rfl
           · first
             | (apply Ev.load_own; (· exact rfl); (· repeat (first | exact mH _ _ | apply mT)); exact rfl)
             | (apply Ev.load_agg; (· exact rfl); (· repeat (first | exact mH _ _ | apply mT)); exact rfl)
             | (apply Ev.load_rdq; (· exact rfl); (· repeat (first | exact mH _ _ | apply mT)); iterate 2 exact rfl)
             | (apply Ev.load_ardq; (· exact rfl); (· repeat (first | exact mH _ _ | apply mT)); exact rfl)
             | (apply Ev.fieldAddr; exact rfl)
             | (apply Ev.len; exact rfl)
             | (apply EqOf.eq; exact rfl)
             | (apply EqOf.ne; exact rfl)
             | (apply Ev.conv; exact rfl)
             | (apply Ev.buildN; exact rfl)
             | (apply Ev.shr; (iterate 2 exact rfl); first | decide | omega)
             | (apply Ev.shl; (iterate 2 exact rfl); first | decide | omega)
           · exact rfl)
        | (apply yn; iterate 4 exact rfl)
        | ((apply QL.split; (· exact rfl); (· exact rfl); (· exact rfl)); all_goals (intro hc; try simp only [decide_eq_true_eq, decide_eq_false_iff_not, Bool.not_eq_true', Bool.not_eq_false', Bool.not_eq_true, Bool.not_eq_false, Bool.not_true, Bool.not_false, Int.not_lt, Int.not_le, List.cons.injEq, and_true, beq_iff_eq, beq_eq_false_iff_ne] at hc; try (exfalso; first | contradiction | omega)))
        | apply QL.nil
        )
      all_goals (show DW _ _ _ _ _ _ _ _))
    all_goals (
      apply DW.loud 6
      · exact rfl
      · decide +kernel
      repeat' (
        first
        | (apply kg; iterate 2 exact rfl)
        | (apply kG; iterate 3 exact rfl)
        | apply kM
        | (
          first
          | (apply kp; iterate 2 exact rfl)
          | (apply ko; (· exact rfl); (· repeat (first | exact mH _ _ | apply mT)); iterate 2 exact rfl)
          | (apply ka; (· exact rfl); (· repeat (first | exact mH _ _ | apply mT)); iterate 2 exact rfl)
          | (apply kL; (iterate 3 exact rfl); (· repeat (first | exact BS.nil _ | (apply BS.int; exact rfl) | (apply BS.ptr; exact rfl) | (apply BS.slice; exact rfl) | (apply BS.agg; iterate 2 exact rfl))); intro _)
          | (apply kT; (iterate 2 exact rfl); (· repeat (first | exact sH _ _ _ | apply sT)); iterate 2 exact rfl)
          | (apply kS; (iterate 2 exact rfl); (· repeat (first | exact sH _ _ _ | apply sT)); exact rfl)
          | (apply kB; (iterate 2 exact rfl); intro _)
          | (apply kA; exact rfl; intro _)
          )
        )
      all_goals (refine At.stage_same (fun _ h => St.sub h (by repeat (first | exact List.Sublist.refl _ | apply List.Sublist.cons_cons | apply List.Sublist.cons))) ?_))
    all_goals (
      apply DW.quiet [7]
      · decide +kernel
      · first | exact fun _ h => h | exact fun _ h => St.sub h (by repeat (first | exact List.Sublist.refl _ | apply List.Sublist.cons_cons | apply List.Sublist.cons))
      repeat' (
        first
        | (apply yp; iterate 3 exact rfl)
        | (apply QL.ev; exact rfl
           · first
             | (apply Ev.load_own; (· exact rfl); (· repeat (first | exact mH _ _ | apply mT)); exact rfl)
             | (apply Ev.load_agg; (· exact rfl); (· repeat (first | exact mH _ _ | apply mT)); exact rfl)
             | (apply Ev.load_rdq; (· exact rfl); (· repeat (first | exact mH _ _ | apply mT)); iterate 2 exact rfl)
             | (apply Ev.load_ardq; (· exact rfl); (· repeat (first | exact mH _ _ | apply mT)); exact rfl)
             | (apply Ev.fieldAddr; exact rfl)
             | (apply Ev.len; exact rfl)
             | (apply EqOf.eq; exact rfl)
             | (apply EqOf.ne; exact rfl)
             | (apply Ev.conv; exact rfl)
             | (apply Ev.buildN; exact rfl)
             | (apply Ev.shr; (iterate 2 exact rfl); first | decide | omega)
             | (apply Ev.shl; (iterate 2 exact rfl); first | decide | omega)
           · exact rfl)
        | (apply yq; iterate 5 exact rfl)
        | (apply QL.evg; iterate 3 exact rfl
           · first
             | (apply Ev.load_own; (· exact rfl); (· repeat (first | exact mH _ _ | apply mT)); exact rfl)
             | (apply Ev.load_agg; (· exact rfl); (· repeat (first | exact mH _ _ | apply mT)); exact rfl)
             | (apply Ev.load_rdq; (· exact rfl); (· repeat (first | exact mH _ _ | apply mT)); iterate 2 exact rfl)
             | (apply Ev.load_ardq; (· exact rfl); (· repeat (first | exact mH _ _ | apply mT)); exact rfl)
             | (apply Ev.fieldAddr; exact rfl)
             | (apply Ev.len; exact rfl)
             | (apply EqOf.eq; exact rfl)
             | (apply EqOf.ne; exact rfl)
             | (apply Ev.conv; exact rfl)
             | (apply Ev.buildN; exact rfl)
             | (apply Ev.shr; (iterate 2 exact rfl); first | decide | omega)
             | (apply Ev.shl; (iterate 2 exact rfl); first | decide | omega)
           · exact rfl)
        | (apply yn; iterate 4 exact rfl)
        | ((apply QL.split; (· exact rfl); (· exact rfl); (· exact rfl)); all_goals (intro hc; try simp only [decide_eq_true_eq, decide_eq_false_iff_not, Bool.not_eq_true', Bool.not_eq_false', Bool.not_eq_true, Bool.not_eq_false, Bool.not_true, Bool.not_false, Int.not_lt, Int.not_le, List.cons.injEq, and_true, beq_iff_eq, beq_eq_false_iff_ne] at hc; try (exfalso; first | contradiction | omega)))
        | apply QL.nil
        )
      all_goals (show DW _ _ _ _ _ _ _ _))
    all_goals (first | (apply DW.done_thn; (· decide +kernel)) | (apply DW.done; (· decide +kernel)))
    repeat' (
      first
      | (
        first
        | (apply kp; iterate 2 exact rfl)
        | apply ja | apply jb | apply jg | apply jj | (apply je; exact rfl) | (apply jf; exact rfl) | apply jd | apply jh | apply ji | (apply jc; kernel_rfl) | apply jk | apply jl | apply jm | apply jn | apply jo | (apply jp; exact rfl) | apply jq | apply jr | apply js | apply jt | apply ju | apply jv | apply jw | apply kN | apply kM
        | (apply kf; iterate 2 exact rfl)
        | (apply ko; (· exact rfl); (· repeat (first | exact mH _ _ | apply mT)); iterate 2 exact rfl)
        | (apply ka; (· exact rfl); (· repeat (first | exact mH _ _ | apply mT)); iterate 2 exact rfl)
        | (apply kr; (· exact rfl); (· repeat (first | exact mH _ _ | apply mT)); iterate 3 exact rfl)
        | (apply ks; (· exact rfl); (· repeat (first | exact mH _ _ | apply mT)); iterate 2 exact rfl)
        | (apply kn; iterate 2 exact rfl)
        | (apply ke; iterate 2 exact rfl)
        | (apply kx; iterate 2 exact rfl)
        | (apply kc; iterate 2 exact rfl)
        | (apply kb; iterate 2 exact rfl)
        | (apply kg; iterate 2 exact rfl)
        | (apply kG; iterate 3 exact rfl)
        | (apply kB; (iterate 2 exact rfl); intro _)
        | (apply kA; exact rfl; intro _)
        | (apply kL; (iterate 3 exact rfl); (· repeat (first | exact BS.nil _ | (apply BS.int; exact rfl) | (apply BS.ptr; exact rfl) | (apply BS.slice; exact rfl) | (apply BS.agg; iterate 2 exact rfl))); intro _)
        | (apply kT; (iterate 2 exact rfl); (· repeat (first | exact sH _ _ _ | apply sT)); iterate 2 exact rfl)
        | (apply kS; (iterate 2 exact rfl); (· repeat (first | exact sH _ _ _ | apply sT)); exact rfl)
        | (apply kh; (iterate 2 exact rfl); (first | decide | omega); exact rfl)
        | (apply kl; (iterate 2 exact rfl); (first | decide | omega); exact rfl)
        )
      | ((first | (apply kR; (· exact rfl); (· exact rfl)) | (apply kQ; (· exact rfl))); all_goals (intro hc; try simp only [decide_eq_true_eq, decide_eq_false_iff_not, Bool.not_eq_true', Bool.not_eq_false', Bool.not_eq_true, Bool.not_eq_false, Bool.not_true, Bool.not_false, Int.not_lt, Int.not_le, List.cons.injEq, and_true, beq_iff_eq, beq_eq_false_iff_ne] at hc; try (exfalso; first | contradiction | omega)))
      )
    (apply ret2c; (· exact rfl); (· exact inferInstance); (· exact rfl); (· (repeat (first | exact List.Mem.head _ | apply List.Mem.tail))); (· exact rfl); intro w' hS)
    have e : markB g k = true := by simp_all [markB, okK]
    unfold markM markS
    simp only [e, if_true]
    exact ⟨rfl, (front hS 2 rfl rfl).step rfl⟩
  all_goals (
    (apply ret2c; (· exact rfl); (· exact inferInstance); (· exact rfl); (· (repeat (first | exact List.Mem.head _ | apply List.Mem.tail))); (· exact rfl); intro w' hS)
    have e : markB g k = false := by simp_all [markB, okK]
    unfold markM markS
    simp only [e, Bool.false_eq_true, if_false]
    exact ⟨rfl, (front hS 2 rfl rfl).step rfl⟩)
def askB (g : Gt) (k : Ky) : Bool := owesB g && decide (okK k) && aboveB g.w k && aboveB g.w g.a
def askS (g : Gt) (k : Ky) : Gt := if askB g k = true then { g with a := g.w } else g
def askK (g : Gt) (k : Ky) : Ky := if askB g k = true then g.w else zeroK
set_option maxHeartbeats 1000000 in
theorem g36 (b : Nat) (g : Gt) (k : Ky) (w : World) (h : w.heap[b]? = some (.cells g.cells.toArray 95 (0, 0))) : CallsTo Try.prog 36 [.pointer (some ⟨b, 0, none⟩), k.val] w fun v w' => v = .tuple [(askK g k).val, .bool (askB g k)].toArray ∧ Step (gO 95 b g) (gO 95 b (askS g k)) w w' := by
  refine go_in (n := 47) (gO_in h) Try.func36 rfl rfl ?_
  repeat' (
    first
    | (apply CW.reg_heldC)
    | (
      first
      | (apply kp; iterate 2 exact rfl)
      | apply ja | apply jb | apply jg | apply jj | (apply je; exact rfl) | (apply jf; exact rfl) | apply jd | apply jh | apply ji | (apply jc; kernel_rfl) | apply jk | apply jl | apply jm | apply jn | apply jo | (apply jp; exact rfl) | apply jq | apply jr | apply js | apply jt | apply ju | apply jv | apply jw | apply kN | apply kM
      | (apply kf; iterate 2 exact rfl)
      | (apply ko; (· exact rfl); (· repeat (first | exact mH _ _ | apply mT)); iterate 2 exact rfl)
      | (apply ka; (· exact rfl); (· repeat (first | exact mH _ _ | apply mT)); iterate 2 exact rfl)
      | (apply kr; (· exact rfl); (· repeat (first | exact mH _ _ | apply mT)); iterate 3 exact rfl)
      | (apply ks; (· exact rfl); (· repeat (first | exact mH _ _ | apply mT)); iterate 2 exact rfl)
      | (apply kn; iterate 2 exact rfl)
      | (apply ke; iterate 2 exact rfl)
      | (apply kx; iterate 2 exact rfl)
      | (apply kc; iterate 2 exact rfl)
      | (apply kb; iterate 2 exact rfl)
      | (apply kg; iterate 2 exact rfl)
      | (apply kG; iterate 3 exact rfl)
      | (apply kB; (iterate 2 exact rfl); intro _)
      | (apply kA; exact rfl; intro _)
      | (apply kL; (iterate 3 exact rfl); (· repeat (first | exact BS.nil _ | (apply BS.int; exact rfl) | (apply BS.ptr; exact rfl) | (apply BS.slice; exact rfl) | (apply BS.agg; iterate 2 exact rfl))); intro _)
      | (apply kT; (iterate 2 exact rfl); (· repeat (first | exact sH _ _ _ | apply sT)); iterate 2 exact rfl)
      | (apply kS; (iterate 2 exact rfl); (· repeat (first | exact sH _ _ _ | apply sT)); exact rfl)
      | (apply kh; (iterate 2 exact rfl); (first | decide | omega); exact rfl)
      | (apply kl; (iterate 2 exact rfl); (first | decide | omega); exact rfl)
      )
    | ((first | (apply kR; (· exact rfl); (· exact rfl)) | (apply kQ; (· exact rfl))); all_goals (intro hc; try simp only [decide_eq_true_eq, decide_eq_false_iff_not, Bool.not_eq_true', Bool.not_eq_false', Bool.not_eq_true, Bool.not_eq_false, Bool.not_true, Bool.not_false, Int.not_lt, Int.not_le, List.cons.injEq, and_true, beq_iff_eq, beq_eq_false_iff_ne] at hc; try (exfalso; first | contradiction | omega)))
    )
  all_goals (
    apply DW.quiet [0]
    · decide +kernel
    · first | exact fun _ h => h | exact fun _ h => St.sub h (by repeat (first | exact List.Sublist.refl _ | apply List.Sublist.cons_cons | apply List.Sublist.cons))
    repeat' (
      first
      | (apply yp; iterate 3 exact rfl)
      | (apply QL.ev; exact rfl
         · first
           | (apply Ev.load_own; (· exact rfl); (· repeat (first | exact mH _ _ | apply mT)); exact rfl)
           | (apply Ev.load_agg; (· exact rfl); (· repeat (first | exact mH _ _ | apply mT)); exact rfl)
           | (apply Ev.load_rdq; (· exact rfl); (· repeat (first | exact mH _ _ | apply mT)); iterate 2 exact rfl)
           | (apply Ev.load_ardq; (· exact rfl); (· repeat (first | exact mH _ _ | apply mT)); exact rfl)
           | (apply Ev.fieldAddr; exact rfl)
           | (apply Ev.len; exact rfl)
           | (apply EqOf.eq; exact rfl)
           | (apply EqOf.ne; exact rfl)
           | (apply Ev.conv; exact rfl)
           | (apply Ev.buildN; exact rfl)
           | (apply Ev.shr; (iterate 2 exact rfl); first | decide | omega)
           | (apply Ev.shl; (iterate 2 exact rfl); first | decide | omega)
         · exact rfl)
      | (apply yq; iterate 5 exact rfl)
      | (apply QL.evg; iterate 3 exact rfl
         · first
           | (apply Ev.load_own; (· exact rfl); (· repeat (first | exact mH _ _ | apply mT)); exact rfl)
           | (apply Ev.load_agg; (· exact rfl); (· repeat (first | exact mH _ _ | apply mT)); exact rfl)
           | (apply Ev.load_rdq; (· exact rfl); (· repeat (first | exact mH _ _ | apply mT)); iterate 2 exact rfl)
           | (apply Ev.load_ardq; (· exact rfl); (· repeat (first | exact mH _ _ | apply mT)); exact rfl)
           | (apply Ev.fieldAddr; exact rfl)
           | (apply Ev.len; exact rfl)
           | (apply EqOf.eq; exact rfl)
           | (apply EqOf.ne; exact rfl)
           | (apply Ev.conv; exact rfl)
           | (apply Ev.buildN; exact rfl)
           | (apply Ev.shr; (iterate 2 exact rfl); first | decide | omega)
           | (apply Ev.shl; (iterate 2 exact rfl); first | decide | omega)
         · exact rfl)
      | (apply yn; iterate 4 exact rfl)
      | ((apply QL.split; (· exact rfl); (· exact rfl); (· exact rfl)); all_goals (intro hc; try simp only [decide_eq_true_eq, decide_eq_false_iff_not, Bool.not_eq_true', Bool.not_eq_false', Bool.not_eq_true, Bool.not_eq_false, Bool.not_true, Bool.not_false, Int.not_lt, Int.not_le, List.cons.injEq, and_true, beq_iff_eq, beq_eq_false_iff_ne] at hc; try (exfalso; first | contradiction | omega)))
      | apply QL.nil
      )
    all_goals (show DW _ _ _ _ _ _ _ _))
  all_goals (
    apply DW.loud 1
    · exact rfl
    · decide +kernel
    repeat' (
      first
      | (apply kg; iterate 2 exact rfl)
      | (apply kG; iterate 3 exact rfl)
      | apply kM
      | (
        first
        | (apply kp; iterate 2 exact rfl)
        | (apply ko; (· exact rfl); (· repeat (first | exact mH _ _ | apply mT)); iterate 2 exact rfl)
        | (apply ka; (· exact rfl); (· repeat (first | exact mH _ _ | apply mT)); iterate 2 exact rfl)
        | (apply kL; (iterate 3 exact rfl); (· repeat (first | exact BS.nil _ | (apply BS.int; exact rfl) | (apply BS.ptr; exact rfl) | (apply BS.slice; exact rfl) | (apply BS.agg; iterate 2 exact rfl))); intro _)
        | (apply kT; (iterate 2 exact rfl); (· repeat (first | exact sH _ _ _ | apply sT)); iterate 2 exact rfl)
        | (apply kS; (iterate 2 exact rfl); (· repeat (first | exact sH _ _ _ | apply sT)); exact rfl)
        | (apply kB; (iterate 2 exact rfl); intro _)
        | (apply kA; exact rfl; intro _)
        )
      | (apply kq; (· exact rfl); (· intro w1 h1; exact CallsTo.q (g56 b g w1 (h1.rd_of_blk (by (repeat (first | exact mH _ _ | apply mT))))) h1))
      | (apply kq; (· exact rfl); (· intro w1 h1; exact CallsTo.q (g54 g.w k w1) h1))
      | (apply kq; (· exact rfl); (· intro w1 h1; exact CallsTo.q (g54 g.w g.a w1) h1))
      | (apply kq; (· exact rfl); (· intro w1 h1; exact CallsTo.q (c60 k.t k.s k.r k.q w1) h1))
      )
    all_goals (refine At.stage_same (fun _ h => St.sub h (by repeat (first | exact List.Sublist.refl _ | apply List.Sublist.cons_cons | apply List.Sublist.cons))) ?_))
  all_goals (
    apply DW.quiet [2, 3, 4]
    · decide +kernel
    · first | exact fun _ h => h | exact fun _ h => St.sub h (by repeat (first | exact List.Sublist.refl _ | apply List.Sublist.cons_cons | apply List.Sublist.cons))
    repeat' (
      first
      | (apply yp; iterate 3 exact rfl)
      | (apply QL.ev; exact rfl
         · first
           | (apply Ev.load_own; (· exact rfl); (· repeat (first | exact mH _ _ | apply mT)); exact rfl)
           | (apply Ev.load_agg; (· exact rfl); (· repeat (first | exact mH _ _ | apply mT)); exact rfl)
           | (apply Ev.load_rdq; (· exact rfl); (· repeat (first | exact mH _ _ | apply mT)); iterate 2 exact rfl)
           | (apply Ev.load_ardq; (· exact rfl); (· repeat (first | exact mH _ _ | apply mT)); exact rfl)
           | (apply Ev.fieldAddr; exact rfl)
           | (apply Ev.len; exact rfl)
           | (apply EqOf.eq; exact rfl)
           | (apply EqOf.ne; exact rfl)
           | (apply Ev.conv; exact rfl)
           | (apply Ev.buildN; exact rfl)
           | (apply Ev.shr; (iterate 2 exact rfl); first | decide | omega)
           | (apply Ev.shl; (iterate 2 exact rfl); first | decide | omega)
         · exact rfl)
      | (apply yq; iterate 5 exact rfl)
      | (apply QL.evg; iterate 3 exact rfl
         · first
           | (apply Ev.load_own; (· exact rfl); (· repeat (first | exact mH _ _ | apply mT)); exact rfl)
           | (apply Ev.load_agg; (· exact rfl); (· repeat (first | exact mH _ _ | apply mT)); exact rfl)
           | (apply Ev.load_rdq; (· exact rfl); (· repeat (first | exact mH _ _ | apply mT)); iterate 2 exact rfl)
           | (apply Ev.load_ardq; (· exact rfl); (· repeat (first | exact mH _ _ | apply mT)); exact rfl)
           | (apply Ev.fieldAddr; exact rfl)
           | (apply Ev.len; exact rfl)
           | (apply EqOf.eq; exact rfl)
           | (apply EqOf.ne; exact rfl)
           | (apply Ev.conv; exact rfl)
           | (apply Ev.buildN; exact rfl)
           | (apply Ev.shr; (iterate 2 exact rfl); first | decide | omega)
           | (apply Ev.shl; (iterate 2 exact rfl); first | decide | omega)
         · exact rfl)
      | (apply yn; iterate 4 exact rfl)
      | ((apply QL.split; (· exact rfl); (· exact rfl); (· exact rfl)); all_goals (intro hc; try simp only [decide_eq_true_eq, decide_eq_false_iff_not, Bool.not_eq_true', Bool.not_eq_false', Bool.not_eq_true, Bool.not_eq_false, Bool.not_true, Bool.not_false, Int.not_lt, Int.not_le, List.cons.injEq, and_true, beq_iff_eq, beq_eq_false_iff_ne] at hc; try (exfalso; first | contradiction | omega)))
      | apply QL.nil
      )
    all_goals (show DW _ _ _ _ _ _ _ _))
  all_goals (
    apply DW.loud 5
    · exact rfl
    · decide +kernel
    repeat' (
      first
      | (apply kg; iterate 2 exact rfl)
      | (apply kG; iterate 3 exact rfl)
      | apply kM
      | (
        first
        | (apply kp; iterate 2 exact rfl)
        | (apply ko; (· exact rfl); (· repeat (first | exact mH _ _ | apply mT)); iterate 2 exact rfl)
        | (apply ka; (· exact rfl); (· repeat (first | exact mH _ _ | apply mT)); iterate 2 exact rfl)
        | (apply kL; (iterate 3 exact rfl); (· repeat (first | exact BS.nil _ | (apply BS.int; exact rfl) | (apply BS.ptr; exact rfl) | (apply BS.slice; exact rfl) | (apply BS.agg; iterate 2 exact rfl))); intro _)
        | (apply kT; (iterate 2 exact rfl); (· repeat (first | exact sH _ _ _ | apply sT)); iterate 2 exact rfl)
        | (apply kS; (iterate 2 exact rfl); (· repeat (first | exact sH _ _ _ | apply sT)); exact rfl)
        | (apply kB; (iterate 2 exact rfl); intro _)
        | (apply kA; exact rfl; intro _)
        )
      | (apply kq; (· exact rfl); (· intro w1 h1; exact CallsTo.q (g56 b g w1 (h1.rd_of_blk (by (repeat (first | exact mH _ _ | apply mT))))) h1))
      | (apply kq; (· exact rfl); (· intro w1 h1; exact CallsTo.q (g54 g.w k w1) h1))
      | (apply kq; (· exact rfl); (· intro w1 h1; exact CallsTo.q (g54 g.w g.a w1) h1))
      | (apply kq; (· exact rfl); (· intro w1 h1; exact CallsTo.q (c60 k.t k.s k.r k.q w1) h1))
      )
    all_goals (refine At.stage_same (fun _ h => St.sub h (by repeat (first | exact List.Sublist.refl _ | apply List.Sublist.cons_cons | apply List.Sublist.cons))) ?_))
  all_goals (
    apply DW.quiet [6, 7, 8, 9, 10, 11, 12, 13]
    · decide +kernel
    · first | exact fun _ h => h | exact fun _ h => St.sub h (by repeat (first | exact List.Sublist.refl _ | apply List.Sublist.cons_cons | apply List.Sublist.cons))
    repeat' (
      first
      | (apply yp; iterate 3 exact rfl)
      | (apply QL.ev; exact rfl
         · first
           | (apply Ev.load_own; (· exact rfl); (· repeat (first | exact mH _ _ | apply mT)); exact rfl)
           | (apply Ev.load_agg; (· exact rfl); (· repeat (first | exact mH _ _ | apply mT)); exact rfl)
           | (apply Ev.load_rdq; (· exact rfl); (· repeat (first | exact mH _ _ | apply mT)); iterate 2 exact rfl)
           | (apply Ev.load_ardq; (· exact rfl); (· repeat (first | exact mH _ _ | apply mT)); exact rfl)
           | (apply Ev.fieldAddr; exact rfl)
           | (apply Ev.len; exact rfl)
           | (apply EqOf.eq; exact rfl)
           | (apply EqOf.ne; exact rfl)
           | (apply Ev.conv; exact rfl)
           | (apply Ev.buildN; exact rfl)
           | (apply Ev.shr; (iterate 2 exact rfl); first | decide | omega)
           | (apply Ev.shl; (iterate 2 exact rfl); first | decide | omega)
         · exact rfl)
      | (apply yq; iterate 5 exact rfl)
      | (apply QL.evg; iterate 3 exact rfl
         · first
           | (apply Ev.load_own; (· exact rfl); (· repeat (first | exact mH _ _ | apply mT)); exact rfl)
           | (apply Ev.load_agg; (· exact rfl); (· repeat (first | exact mH _ _ | apply mT)); exact rfl)
           | (apply Ev.load_rdq; (· exact rfl); (· repeat (first | exact mH _ _ | apply mT)); iterate 2 exact rfl)
           | (apply Ev.load_ardq; (· exact rfl); (· repeat (first | exact mH _ _ | apply mT)); exact rfl)
           | (apply Ev.fieldAddr; exact rfl)
           | (apply Ev.len; exact rfl)
           | (apply EqOf.eq; exact rfl)
           | (apply EqOf.ne; exact rfl)
           | (apply Ev.conv; exact rfl)
           | (apply Ev.buildN; exact rfl)
           | (apply Ev.shr; (iterate 2 exact rfl); first | decide | omega)
           | (apply Ev.shl; (iterate 2 exact rfl); first | decide | omega)
         · exact rfl)
      | (apply yn; iterate 4 exact rfl)
      | ((apply QL.split; (· exact rfl); (· exact rfl); (· exact rfl)); all_goals (intro hc; try simp only [decide_eq_true_eq, decide_eq_false_iff_not, Bool.not_eq_true', Bool.not_eq_false', Bool.not_eq_true, Bool.not_eq_false, Bool.not_true, Bool.not_false, Int.not_lt, Int.not_le, List.cons.injEq, and_true, beq_iff_eq, beq_eq_false_iff_ne] at hc; try (exfalso; first | contradiction | omega)))
      | apply QL.nil
      )
    all_goals (show DW _ _ _ _ _ _ _ _))
  all_goals (
    apply DW.loud 14
    · exact rfl
    · decide +kernel
    repeat' (
      first
      | (apply kg; iterate 2 exact rfl)
      | (apply kG; iterate 3 exact rfl)
      | apply kM
      | (
        first
        | (apply kp; iterate 2 exact rfl)
        | (apply ko; (· exact rfl); (· repeat (first | exact mH _ _ | apply mT)); iterate 2 exact rfl)
        | (apply ka; (· exact rfl); (· repeat (first | exact mH _ _ | apply mT)); iterate 2 exact rfl)
        | (apply kL; (iterate 3 exact rfl); (· repeat (first | exact BS.nil _ | (apply BS.int; exact rfl) | (apply BS.ptr; exact rfl) | (apply BS.slice; exact rfl) | (apply BS.agg; iterate 2 exact rfl))); intro _)
        | (apply kT; (iterate 2 exact rfl); (· repeat (first | exact sH _ _ _ | apply sT)); iterate 2 exact rfl)
        | (apply kS; (iterate 2 exact rfl); (· repeat (first | exact sH _ _ _ | apply sT)); exact rfl)
        | (apply kB; (iterate 2 exact rfl); intro _)
        | (apply kA; exact rfl; intro _)
        )
      | (apply kq; (· exact rfl); (· intro w1 h1; exact CallsTo.q (g56 b g w1 (h1.rd_of_blk (by (repeat (first | exact mH _ _ | apply mT))))) h1))
      | (apply kq; (· exact rfl); (· intro w1 h1; exact CallsTo.q (g54 g.w k w1) h1))
      | (apply kq; (· exact rfl); (· intro w1 h1; exact CallsTo.q (g54 g.w g.a w1) h1))
      | (apply kq; (· exact rfl); (· intro w1 h1; exact CallsTo.q (c60 k.t k.s k.r k.q w1) h1))
      )
    all_goals (refine At.stage_same (fun _ h => St.sub h (by repeat (first | exact List.Sublist.refl _ | apply List.Sublist.cons_cons | apply List.Sublist.cons))) ?_))
  all_goals (
    apply DW.quiet [15, 16, 17, 18, 19, 20, 21, 22, 23, 24, 25]
    · decide +kernel
    · first | exact fun _ h => h | exact fun _ h => St.sub h (by repeat (first | exact List.Sublist.refl _ | apply List.Sublist.cons_cons | apply List.Sublist.cons))
    repeat' (
      first
      | (apply yp; iterate 3 exact rfl)
      | (apply QL.ev; exact rfl
         · first
           | (apply Ev.load_own; (· exact rfl); (· repeat (first | exact mH _ _ | apply mT)); exact rfl)
           | (apply Ev.load_agg; (· exact rfl); (· repeat (first | exact mH _ _ | apply mT)); exact rfl)
           | (apply Ev.load_rdq; (· exact rfl); (· repeat (first | exact mH _ _ | apply mT)); iterate 2 exact rfl)
           | (apply Ev.load_ardq; (· exact rfl); (· repeat (first | exact mH _ _ | apply mT)); exact rfl)
           | (apply Ev.fieldAddr; exact rfl)
           | (apply Ev.len; exact rfl)
           | (apply EqOf.eq; exact rfl)
           | (apply EqOf.ne; exact rfl)
           | (apply Ev.conv; exact rfl)
           | (apply Ev.buildN; exact rfl)
           | (apply Ev.shr; (iterate 2 exact rfl); first | decide | omega)
           | (apply Ev.shl; (iterate 2 exact rfl); first | decide | omega)
         · exact rfl)
      | (apply yq; iterate 5 exact rfl)
      | (apply QL.evg; iterate 3 exact rfl
         · first
           | (apply Ev.load_own; (· exact rfl); (· repeat (first | exact mH _ _ | apply mT)); exact rfl)
           | (apply Ev.load_agg; (· exact rfl); (· repeat (first | exact mH _ _ | apply mT)); exact rfl)
           | (apply Ev.load_rdq; (· exact rfl); (· repeat (first | exact mH _ _ | apply mT)); iterate 2 exact rfl)
           | (apply Ev.load_ardq; (· exact rfl); (· repeat (first | exact mH _ _ | apply mT)); exact rfl)
           | (apply Ev.fieldAddr; exact rfl)
           | (apply Ev.len; exact rfl)
           | (apply EqOf.eq; exact rfl)
           | (apply EqOf.ne; exact rfl)
           | (apply Ev.conv; exact rfl)
           | (apply Ev.buildN; exact rfl)
           | (apply Ev.shr; (iterate 2 exact rfl); first | decide | omega)
           | (apply Ev.shl; (iterate 2 exact rfl); first | decide | omega)
         · exact rfl)
      | (apply yn; iterate 4 exact rfl)
      | ((apply QL.split; (· exact rfl); (· exact rfl); (· exact rfl)); all_goals (intro hc; try simp only [decide_eq_true_eq, decide_eq_false_iff_not, Bool.not_eq_true', Bool.not_eq_false', Bool.not_eq_true, Bool.not_eq_false, Bool.not_true, Bool.not_false, Int.not_lt, Int.not_le, List.cons.injEq, and_true, beq_iff_eq, beq_eq_false_iff_ne] at hc; try (exfalso; first | contradiction | omega)))
      | apply QL.nil
      )
    all_goals (show DW _ _ _ _ _ _ _ _))
  all_goals (
    apply DW.loud 26
    · exact rfl
    · decide +kernel
    repeat' (
      first
      | (apply kg; iterate 2 exact rfl)
      | (apply kG; iterate 3 exact rfl)
      | apply kM
      | (
        first
        | (apply kp; iterate 2 exact rfl)
        | (apply ko; (· exact rfl); (· repeat (first | exact mH _ _ | apply mT)); iterate 2 exact rfl)
        | (apply ka; (· exact rfl); (· repeat (first | exact mH _ _ | apply mT)); iterate 2 exact rfl)
        | (apply kL; (iterate 3 exact rfl); (· repeat (first | exact BS.nil _ | (apply BS.int; exact rfl) | (apply BS.ptr; exact rfl) | (apply BS.slice; exact rfl) | (apply BS.agg; iterate 2 exact rfl))); intro _)
        | (apply kT; (iterate 2 exact rfl); (· repeat (first | exact sH _ _ _ | apply sT)); iterate 2 exact rfl)
        | (apply kS; (iterate 2 exact rfl); (· repeat (first | exact sH _ _ _ | apply sT)); exact rfl)
        | (apply kB; (iterate 2 exact rfl); intro _)
        | (apply kA; exact rfl; intro _)
        )
      | (apply kq; (· exact rfl); (· intro w1 h1; exact CallsTo.q (g56 b g w1 (h1.rd_of_blk (by (repeat (first | exact mH _ _ | apply mT))))) h1))
      | (apply kq; (· exact rfl); (· intro w1 h1; exact CallsTo.q (g54 g.w k w1) h1))
      | (apply kq; (· exact rfl); (· intro w1 h1; exact CallsTo.q (g54 g.w g.a w1) h1))
      | (apply kq; (· exact rfl); (· intro w1 h1; exact CallsTo.q (c60 k.t k.s k.r k.q w1) h1))
      )
    all_goals (refine At.stage_same (fun _ h => St.sub h (by repeat (first | exact List.Sublist.refl _ | apply List.Sublist.cons_cons | apply List.Sublist.cons))) ?_))
  all_goals (
    apply DW.quiet [27, 28]
    · decide +kernel
    · first | exact fun _ h => h | exact fun _ h => St.sub h (by repeat (first | exact List.Sublist.refl _ | apply List.Sublist.cons_cons | apply List.Sublist.cons))
    repeat' (
      first
      | (apply yp; iterate 3 exact rfl)
      | (apply QL.ev; exact rfl
         · first
           | (apply Ev.load_own; (· exact rfl); (· repeat (first | exact mH _ _ | apply mT)); exact rfl)
           | (apply Ev.load_agg; (· exact rfl); (· repeat (first | exact mH _ _ | apply mT)); exact rfl)
           | (apply Ev.load_rdq; (· exact rfl); (· repeat (first | exact mH _ _ | apply mT)); iterate 2 exact rfl)
           | (apply Ev.load_ardq; (· exact rfl); (· repeat (first | exact mH _ _ | apply mT)); exact rfl)
           | (apply Ev.fieldAddr; exact rfl)
           | (apply Ev.len; exact rfl)
           | (apply EqOf.eq; exact rfl)
           | (apply EqOf.ne; exact rfl)
           | (apply Ev.conv; exact rfl)
           | (apply Ev.buildN; exact rfl)
           | (apply Ev.shr; (iterate 2 exact rfl); first | decide | omega)
           | (apply Ev.shl; (iterate 2 exact rfl); first | decide | omega)
         · exact rfl)
      | (apply yq; iterate 5 exact rfl)
      | (apply QL.evg; iterate 3 exact rfl
         · first
           | (apply Ev.load_own; (· exact rfl); (· repeat (first | exact mH _ _ | apply mT)); exact rfl)
           | (apply Ev.load_agg; (· exact rfl); (· repeat (first | exact mH _ _ | apply mT)); exact rfl)
           | (apply Ev.load_rdq; (· exact rfl); (· repeat (first | exact mH _ _ | apply mT)); iterate 2 exact rfl)
           | (apply Ev.load_ardq; (· exact rfl); (· repeat (first | exact mH _ _ | apply mT)); exact rfl)
           | (apply Ev.fieldAddr; exact rfl)
           | (apply Ev.len; exact rfl)
           | (apply EqOf.eq; exact rfl)
           | (apply EqOf.ne; exact rfl)
           | (apply Ev.conv; exact rfl)
           | (apply Ev.buildN; exact rfl)
           | (apply Ev.shr; (iterate 2 exact rfl); first | decide | omega)
           | (apply Ev.shl; (iterate 2 exact rfl); first | decide | omega)
         · exact rfl)
      | (apply yn; iterate 4 exact rfl)
      | ((apply QL.split; (· exact rfl); (· exact rfl); (· exact rfl)); all_goals (intro hc; try simp only [decide_eq_true_eq, decide_eq_false_iff_not, Bool.not_eq_true', Bool.not_eq_false', Bool.not_eq_true, Bool.not_eq_false, Bool.not_true, Bool.not_false, Int.not_lt, Int.not_le, List.cons.injEq, and_true, beq_iff_eq, beq_eq_false_iff_ne] at hc; try (exfalso; first | contradiction | omega)))
      | apply QL.nil
      )
    all_goals (show DW _ _ _ _ _ _ _ _))
  all_goals (first | (apply DW.done_thn; (· decide +kernel)) | (apply DW.done; (· decide +kernel)))
  repeat' (
    first
    | (
      first
      | (apply kp; iterate 2 exact rfl)
      | apply ja | apply jb | apply jg | apply jj | (apply je; exact rfl) | (apply jf; exact rfl) | apply jd | apply jh | apply ji | (apply jc; kernel_rfl) | apply jk | apply jl | apply jm | apply jn | apply jo | (apply jp; exact rfl) | apply jq | apply jr | apply js | apply jt | apply ju | apply jv | apply jw | apply kN | apply kM
      | (apply kf; iterate 2 exact rfl)
      | (apply ko; (· exact rfl); (· repeat (first | exact mH _ _ | apply mT)); iterate 2 exact rfl)
      | (apply ka; (· exact rfl); (· repeat (first | exact mH _ _ | apply mT)); iterate 2 exact rfl)
      | (apply kr; (· exact rfl); (· repeat (first | exact mH _ _ | apply mT)); iterate 3 exact rfl)
      | (apply ks; (· exact rfl); (· repeat (first | exact mH _ _ | apply mT)); iterate 2 exact rfl)
      | (apply kn; iterate 2 exact rfl)
      | (apply ke; iterate 2 exact rfl)
      | (apply kx; iterate 2 exact rfl)
      | (apply kc; iterate 2 exact rfl)
      | (apply kb; iterate 2 exact rfl)
      | (apply kg; iterate 2 exact rfl)
      | (apply kG; iterate 3 exact rfl)
      | (apply kB; (iterate 2 exact rfl); intro _)
      | (apply kA; exact rfl; intro _)
      | (apply kL; (iterate 3 exact rfl); (· repeat (first | exact BS.nil _ | (apply BS.int; exact rfl) | (apply BS.ptr; exact rfl) | (apply BS.slice; exact rfl) | (apply BS.agg; iterate 2 exact rfl))); intro _)
      | (apply kT; (iterate 2 exact rfl); (· repeat (first | exact sH _ _ _ | apply sT)); iterate 2 exact rfl)
      | (apply kS; (iterate 2 exact rfl); (· repeat (first | exact sH _ _ _ | apply sT)); exact rfl)
      | (apply kh; (iterate 2 exact rfl); (first | decide | omega); exact rfl)
      | (apply kl; (iterate 2 exact rfl); (first | decide | omega); exact rfl)
      )
    | ((first | (apply kR; (· exact rfl); (· exact rfl)) | (apply kQ; (· exact rfl))); all_goals (intro hc; try simp only [decide_eq_true_eq, decide_eq_false_iff_not, Bool.not_eq_true', Bool.not_eq_false', Bool.not_eq_true, Bool.not_eq_false, Bool.not_true, Bool.not_false, Int.not_lt, Int.not_le, List.cons.injEq, and_true, beq_iff_eq, beq_eq_false_iff_ne] at hc; try (exfalso; first | contradiction | omega)))
    )
  rotate_right
  · (apply ret2c; (· exact rfl); (· exact inferInstance); (· exact rfl); (· (repeat (first | exact List.Mem.head _ | apply List.Mem.tail))); (· exact rfl); intro w' hS)
    have e : askB g k = true := by simp_all [askB, okK]
    unfold askK askS
    simp only [e, if_true]
    exact ⟨rfl, (front hS 2 rfl rfl).step rfl⟩
  all_goals (
    (apply ret2c; (· exact rfl); (· exact inferInstance); (· exact rfl); (· (repeat (first | exact List.Mem.head _ | apply List.Mem.tail))); (· exact rfl); intro w' hS)
    have e : askB g k = false := by simp_all [askB, okK]
    unfold askK askS
    simp only [e, Bool.false_eq_true, if_false]
    exact ⟨rfl, (front hS 2 rfl rfl).step rfl⟩)
theorem g38 (b : Nat) (g : Gt) (w : World) (h : w.heap[b]? = some (.cells g.cells.toArray 95 (0, 0))) (hn : g.node ≠ 0) : CallsTo Try.prog 38 [.pointer (some ⟨b, 0, none⟩)] w fun v w' => Step (gO 95 b g) (gO 95 b { g with a := zeroK }) w w' := by
  refine go_in (n := 9) (gO_in h) Try.func38 rfl rfl ?_
  repeat' (
    first
    | (
      first
      | (apply kp; iterate 2 exact rfl)
      | apply ja | apply jb | apply jg | apply jj | (apply je; exact rfl) | (apply jf; exact rfl) | apply jd | apply jh | apply ji | (apply jc; kernel_rfl) | apply jk | apply jl | apply jm | apply jn | apply jo | (apply jp; exact rfl) | apply jq | apply jr | apply js | apply jt | apply ju | apply jv | apply jw | apply kN | apply kM
      | (apply kf; iterate 2 exact rfl)
      | (apply ko; (· exact rfl); (· repeat (first | exact mH _ _ | apply mT)); iterate 2 exact rfl)
      | (apply ka; (· exact rfl); (· repeat (first | exact mH _ _ | apply mT)); iterate 2 exact rfl)
      | (apply kr; (· exact rfl); (· repeat (first | exact mH _ _ | apply mT)); iterate 3 exact rfl)
      | (apply ks; (· exact rfl); (· repeat (first | exact mH _ _ | apply mT)); iterate 2 exact rfl)
      | (apply kn; iterate 2 exact rfl)
      | (apply ke; iterate 2 exact rfl)
      | (apply kx; iterate 2 exact rfl)
      | (apply kc; iterate 2 exact rfl)
      | (apply kb; iterate 2 exact rfl)
      | (apply kg; iterate 2 exact rfl)
      | (apply kG; iterate 3 exact rfl)
      | (apply kB; (iterate 2 exact rfl); intro _)
      | (apply kA; exact rfl; intro _)
      | (apply kL; (iterate 3 exact rfl); (· repeat (first | exact BS.nil _ | (apply BS.int; exact rfl) | (apply BS.ptr; exact rfl) | (apply BS.slice; exact rfl) | (apply BS.agg; iterate 2 exact rfl))); intro _)
      | (apply kT; (iterate 2 exact rfl); (· repeat (first | exact sH _ _ _ | apply sT)); iterate 2 exact rfl)
      | (apply kS; (iterate 2 exact rfl); (· repeat (first | exact sH _ _ _ | apply sT)); exact rfl)
      | (apply kh; (iterate 2 exact rfl); (first | decide | omega); exact rfl)
      | (apply kl; (iterate 2 exact rfl); (first | decide | omega); exact rfl)
      )
    | (apply kq; (· exact rfl); (· intro w1 h1; exact CallsTo.q (g53 b g w1 (h1.rd_of_blk (by (repeat (first | exact mH _ _ | apply mT))))) h1))
    | ((first | (apply kR; (· exact rfl); (· exact rfl)) | (apply kQ; (· exact rfl))); all_goals (intro hc; try simp only [decide_eq_true_eq, decide_eq_false_iff_not, Bool.not_eq_true', Bool.not_eq_false', Bool.not_eq_true, Bool.not_eq_false, Bool.not_true, Bool.not_false, Int.not_lt, Int.not_le, List.cons.injEq, and_true, beq_iff_eq, beq_eq_false_iff_ne] at hc; try (exfalso; first | contradiction | omega)))
    )
  apply end0; (· exact rfl); intro w' hS
  exact hS.step rfl
theorem g45 (b : Nat) (g : Gt) (w : World) (h : Rd w (some ⟨b, 0, none⟩) g.cells) (hn : g.node ≠ 0) : CallsTo Try.prog 45 [.pointer (some ⟨b, 0, none⟩)] w fun v w' => v = g.p.val ∧ Grew w w' := by
  refine go_in (n := 10) (St.rd1 h) Try.func45 rfl rfl ?_
  repeat' (
    first
    | (
      first
      | (apply kp; iterate 2 exact rfl)
      | apply ja | apply jb | apply jg | apply jj | (apply je; exact rfl) | (apply jf; exact rfl) | apply jd | apply jh | apply ji | (apply jc; kernel_rfl) | apply jk | apply jl | apply jm | apply jn | apply jo | (apply jp; exact rfl) | apply jq | apply jr | apply js | apply jt | apply ju | apply jv | apply jw | apply kN | apply kM
      | (apply kf; iterate 2 exact rfl)
      | (apply ko; (· exact rfl); (· repeat (first | exact mH _ _ | apply mT)); iterate 2 exact rfl)
      | (apply ka; (· exact rfl); (· repeat (first | exact mH _ _ | apply mT)); iterate 2 exact rfl)
      | (apply kr; (· exact rfl); (· repeat (first | exact mH _ _ | apply mT)); iterate 3 exact rfl)
      | (apply ks; (· exact rfl); (· repeat (first | exact mH _ _ | apply mT)); iterate 2 exact rfl)
      | (apply kn; iterate 2 exact rfl)
      | (apply ke; iterate 2 exact rfl)
      | (apply kx; iterate 2 exact rfl)
      | (apply kc; iterate 2 exact rfl)
      | (apply kb; iterate 2 exact rfl)
      | (apply kg; iterate 2 exact rfl)
      | (apply kG; iterate 3 exact rfl)
      | (apply kB; (iterate 2 exact rfl); intro _)
      | (apply kA; exact rfl; intro _)
      | (apply kL; (iterate 3 exact rfl); (· repeat (first | exact BS.nil _ | (apply BS.int; exact rfl) | (apply BS.ptr; exact rfl) | (apply BS.slice; exact rfl) | (apply BS.agg; iterate 2 exact rfl))); intro _)
      | (apply kT; (iterate 2 exact rfl); (· repeat (first | exact sH _ _ _ | apply sT)); iterate 2 exact rfl)
      | (apply kS; (iterate 2 exact rfl); (· repeat (first | exact sH _ _ _ | apply sT)); exact rfl)
      | (apply kh; (iterate 2 exact rfl); (first | decide | omega); exact rfl)
      | (apply kl; (iterate 2 exact rfl); (first | decide | omega); exact rfl)
      )
    | (apply kq; (· exact rfl); (· intro w1 h1; exact CallsTo.q (g53 b g w1 (h1.rd_of (by (repeat (first | exact mH _ _ | apply mT))))) h1))
    | ((first | (apply kR; (· exact rfl); (· exact rfl)) | (apply kQ; (· exact rfl))); all_goals (intro hc; try simp only [decide_eq_true_eq, decide_eq_false_iff_not, Bool.not_eq_true', Bool.not_eq_false', Bool.not_eq_true, Bool.not_eq_false, Bool.not_true, Bool.not_false, Int.not_lt, Int.not_le, List.cons.injEq, and_true, beq_iff_eq, beq_eq_false_iff_ne] at hc; try (exfalso; first | contradiction | omega)))
    )
  (apply ret1c; (· exact rfl); (· exact inferInstance); (· exact rfl); (· (repeat (first | exact List.Mem.head _ | apply List.Mem.tail))); (· exact rfl); intro w' hS)
  exact ⟨rfl, hS.toKeep⟩
def chartM (node : Int) (body : List Int) : Msg := ⟨4, node, 0, 0, 0, 0, 0, false, 0, 0, 0, 0, body⟩
def beginB (k : Ky) (ps : List Plc) : Bool := decide (okK k ∧ (charts ps).2 = 0)
def beginM (g : Gt) (k : Ky) (ps : List Plc) : Msg := if beginB k ps = true then chartM g.node (charts ps).1 else zeroMsg
def beginE (k : Ky) (ps : List Plc) : Int := if beginB k ps = true then 0 else 2
def beginS (g : Gt) (k : Ky) (ps : List Plc) : Gt := if beginB k ps = true ∧ aboveB k g.p = true then { g with p := k } else g
set_option maxHeartbeats 1000000 in
theorem g42 (b : Nat) (g : Gt) (k : Ky) (a : Option Addr) (c : Nat) (ps : List Plc) (w : World) (h : w.heap[b]? = some (.cells g.cells.toArray 95 (0, 0))) (hn : g.node ≠ 0) (hr : Rd w a (pcs ps)) (hd : ∀ x, rdFoot a (pcs ps) x → x ≠ b) (hm : ps.length ≤ 281474976710656) (hi : plcsI ps) :
    CallsTo Try.prog 42 [.pointer (some ⟨b, 0, none⟩), k.val, .slice a ps.length c] w fun v w' => ∃ a2 c2, v = .tuple [(beginM g k ps).val a2 c2, .int .i64 (beginE k ps)].toArray ∧
      St w (gO 95 b g).foot [gO 95 b (beginS g k ps), osl (.slice a2 (beginM g k ps).body.length c2) 5 1 (beginM g k ps).body.length (bv (beginM g k ps).body)] w' := by
  refine go_in (n := 42) ((gO_in h).addRd hr hd) Try.func42 rfl rfl ?_
  repeat' (
    first
    | (
      first
      | (apply kp; iterate 2 exact rfl)
      | apply ja | apply jb | apply jg | apply jj | (apply je; exact rfl) | (apply jf; exact rfl) | apply jd | apply jh | apply ji | (apply jc; kernel_rfl) | apply jk | apply jl | apply jm | apply jn | apply jo | (apply jp; exact rfl) | apply jq | apply jr | apply js | apply jt | apply ju | apply jv | apply jw | apply kN | apply kM
      | (apply kf; iterate 2 exact rfl)
      | (apply ko; (· exact rfl); (· repeat (first | exact mH _ _ | apply mT)); iterate 2 exact rfl)
      | (apply ka; (· exact rfl); (· repeat (first | exact mH _ _ | apply mT)); iterate 2 exact rfl)
      | (apply kr; (· exact rfl); (· repeat (first | exact mH _ _ | apply mT)); iterate 3 exact rfl)
      | (apply ks; (· exact rfl); (· repeat (first | exact mH _ _ | apply mT)); iterate 2 exact rfl)
      | (apply kn; iterate 2 exact rfl)
      | (apply ke; iterate 2 exact rfl)
      | (apply kx; iterate 2 exact rfl)
      | (apply kc; iterate 2 exact rfl)
      | (apply kb; iterate 2 exact rfl)
      | (apply kg; iterate 2 exact rfl)
      | (apply kG; iterate 3 exact rfl)
      | (apply kB; (iterate 2 exact rfl); intro _)
      | (apply kA; exact rfl; intro _)
      | (apply kL; (iterate 3 exact rfl); (· repeat (first | exact BS.nil _ | (apply BS.int; exact rfl) | (apply BS.ptr; exact rfl) | (apply BS.slice; exact rfl) | (apply BS.agg; iterate 2 exact rfl))); intro _)
      | (apply kT; (iterate 2 exact rfl); (· repeat (first | exact sH _ _ _ | apply sT)); iterate 2 exact rfl)
      | (apply kS; (iterate 2 exact rfl); (· repeat (first | exact sH _ _ _ | apply sT)); exact rfl)
      | (apply kh; (iterate 2 exact rfl); (first | decide | omega); exact rfl)
      | (apply kl; (iterate 2 exact rfl); (first | decide | omega); exact rfl)
      )
    | (apply kq; (· exact rfl); (· intro w1 h1; exact CallsTo.q (g53 b g w1 (h1.rd_of_blk (by (repeat (first | exact mH _ _ | apply mT))))) h1))
    | ((first | (apply kR; (· exact rfl); (· exact rfl)) | (apply kQ; (· exact rfl))); all_goals (intro hc; try simp only [decide_eq_true_eq, decide_eq_false_iff_not, Bool.not_eq_true', Bool.not_eq_false', Bool.not_eq_true, Bool.not_eq_false, Bool.not_true, Bool.not_false, Int.not_lt, Int.not_le, List.cons.injEq, and_true, beq_iff_eq, beq_eq_false_iff_ne] at hc; try (exfalso; first | contradiction | omega)))
    )
  apply LR.call
  · exact rfl
  intro w1 h1
  refine (c28 a c ps w1 (h1.rd_of (by (repeat (first | exact mH _ _ | apply mT)))) hm hi).mono ?_
  rintro v w2 ⟨a1, c1, rfl, hn1⟩
  refine LR.back (h1.newSl hn1) ?_
  clear hn1 h1
  repeat' (
    first
    | (apply CW.reg_heldC)
    | (
      first
      | (apply kp; iterate 2 exact rfl)
      | apply ja | apply jb | apply jg | apply jj | (apply je; exact rfl) | (apply jf; exact rfl) | apply jd | apply jh | apply ji | (apply jc; kernel_rfl) | apply jk | apply jl | apply jm | apply jn | apply jo | (apply jp; exact rfl) | apply jq | apply jr | apply js | apply jt | apply ju | apply jv | apply jw | apply kN | apply kM
      | (apply kf; iterate 2 exact rfl)
      | (apply ko; (· exact rfl); (· repeat (first | exact mH _ _ | apply mT)); iterate 2 exact rfl)
      | (apply ka; (· exact rfl); (· repeat (first | exact mH _ _ | apply mT)); iterate 2 exact rfl)
      | (apply kr; (· exact rfl); (· repeat (first | exact mH _ _ | apply mT)); iterate 3 exact rfl)
      | (apply ks; (· exact rfl); (· repeat (first | exact mH _ _ | apply mT)); iterate 2 exact rfl)
      | (apply kn; iterate 2 exact rfl)
      | (apply ke; iterate 2 exact rfl)
      | (apply kx; iterate 2 exact rfl)
      | (apply kc; iterate 2 exact rfl)
      | (apply kb; iterate 2 exact rfl)
      | (apply kg; iterate 2 exact rfl)
      | (apply kG; iterate 3 exact rfl)
      | (apply kB; (iterate 2 exact rfl); intro _)
      | (apply kA; exact rfl; intro _)
      | (apply kL; (iterate 3 exact rfl); (· repeat (first | exact BS.nil _ | (apply BS.int; exact rfl) | (apply BS.ptr; exact rfl) | (apply BS.slice; exact rfl) | (apply BS.agg; iterate 2 exact rfl))); intro _)
      | (apply kT; (iterate 2 exact rfl); (· repeat (first | exact sH _ _ _ | apply sT)); iterate 2 exact rfl)
      | (apply kS; (iterate 2 exact rfl); (· repeat (first | exact sH _ _ _ | apply sT)); exact rfl)
      | (apply kh; (iterate 2 exact rfl); (first | decide | omega); exact rfl)
      | (apply kl; (iterate 2 exact rfl); (first | decide | omega); exact rfl)
      )
    | (apply kq; (· exact rfl); (· intro w1 h1; exact CallsTo.q (c60 k.t k.s k.r k.q w1) h1))
    | ((first | (apply kR; (· exact rfl); (· exact rfl)) | (apply kQ; (· exact rfl))); all_goals (intro hc; try simp only [decide_eq_true_eq, decide_eq_false_iff_not, Bool.not_eq_true', Bool.not_eq_false', Bool.not_eq_true, Bool.not_eq_false, Bool.not_true, Bool.not_false, Int.not_lt, Int.not_le, List.cons.injEq, and_true, beq_iff_eq, beq_eq_false_iff_ne] at hc; try (exfalso; first | contradiction | omega)))
    )
  rotate_right
  · skip
    all_goals (
      apply DW.quiet [0, 1, 2, 3, 4]
      · decide +kernel
      · first | exact fun _ h => h | exact fun _ h => St.sub h (by repeat (first | exact List.Sublist.refl _ | apply List.Sublist.cons_cons | apply List.Sublist.cons))
      repeat' (
        first
        | (apply yp; iterate 3 exact rfl)
        | (apply QL.ev; exact rfl
           · first
             | (apply Ev.load_own; (· exact rfl); (· repeat (first | exact mH _ _ | apply mT)); exact rfl)
             | (apply Ev.load_agg; (· exact rfl); (· repeat (first | exact mH _ _ | apply mT)); exact rfl)
             | (apply Ev.load_rdq; (· exact rfl); (· repeat (first | exact mH _ _ | apply mT)); iterate 2 exact rfl)
             | (apply Ev.load_ardq; (· exact rfl); (· repeat (first | exact mH _ _ | apply mT)); exact rfl)
             | (apply Ev.fieldAddr; exact rfl)
             | (apply Ev.len; exact rfl)
             | (apply EqOf.eq; exact rfl)
             | (apply EqOf.ne; exact rfl)
             | (apply Ev.conv; exact rfl)
             | (apply Ev.buildN; exact rfl)
             | (apply Ev.shr; (iterate 2 exact rfl); first | decide | omega)
             | (apply Ev.shl; (iterate 2 exact rfl); first | decide | omega)
           · exact rfl)
        | (apply yq; iterate 5 exact rfl)
        | (apply QL.evg; iterate 3 exact rfl
           · first
             | (apply Ev.load_own; (· exact rfl); (· repeat (first | exact mH _ _ | apply mT)); exact rfl)
             | (apply Ev.load_agg; (· exact rfl); (· repeat (first | exact mH _ _ | apply mT)); exact rfl)
             | (apply Ev.load_rdq; (· exact rfl); (· repeat (first | exact mH _ _ | apply mT)); iterate 2 exact rfl)
             | (apply Ev.load_ardq; (· exact rfl); (· repeat (first | exact mH _ _ | apply mT)); exact rfl)
             | (apply Ev.fieldAddr; exact rfl)
             | (apply Ev.len; exact rfl)
             | (apply EqOf.eq; exact rfl)
             | (apply EqOf.ne; exact rfl)
             | (apply Ev.conv; exact rfl)
             | (apply Ev.buildN; exact rfl)
             | (apply Ev.shr; (iterate 2 exact rfl); first | decide | omega)
             | (apply Ev.shl; (iterate 2 exact rfl); first | decide | omega)
           · exact rfl)
        | (apply yn; iterate 4 exact rfl)
        | ((apply QL.split; (· exact rfl); (· exact rfl); (· exact rfl)); all_goals (intro hc; try simp only [decide_eq_true_eq, decide_eq_false_iff_not, Bool.not_eq_true', Bool.not_eq_false', Bool.not_eq_true, Bool.not_eq_false, Bool.not_true, Bool.not_false, Int.not_lt, Int.not_le, List.cons.injEq, and_true, beq_iff_eq, beq_eq_false_iff_ne] at hc; try (exfalso; first | contradiction | omega)))
        | apply QL.nil
        )
      all_goals (show DW _ _ _ _ _ _ _ _))
    all_goals (
      apply DW.loud 5
      · exact rfl
      · decide +kernel
      repeat' (
        first
        | (apply kg; iterate 2 exact rfl)
        | (apply kG; iterate 3 exact rfl)
        | apply kM
        | (
          first
          | (apply kp; iterate 2 exact rfl)
          | (apply ko; (· exact rfl); (· repeat (first | exact mH _ _ | apply mT)); iterate 2 exact rfl)
          | (apply ka; (· exact rfl); (· repeat (first | exact mH _ _ | apply mT)); iterate 2 exact rfl)
          | (apply kL; (iterate 3 exact rfl); (· repeat (first | exact BS.nil _ | (apply BS.int; exact rfl) | (apply BS.ptr; exact rfl) | (apply BS.slice; exact rfl) | (apply BS.agg; iterate 2 exact rfl))); intro _)
          | (apply kT; (iterate 2 exact rfl); (· repeat (first | exact sH _ _ _ | apply sT)); iterate 2 exact rfl)
          | (apply kS; (iterate 2 exact rfl); (· repeat (first | exact sH _ _ _ | apply sT)); exact rfl)
          | (apply kB; (iterate 2 exact rfl); intro _)
          | (apply kA; exact rfl; intro _)
          )
        | (apply kq; (· exact rfl); (· intro w1 h1; exact CallsTo.q (g54 k g.p w1) h1))
        )
      all_goals (refine At.stage_same (fun _ h => St.sub h (by repeat (first | exact List.Sublist.refl _ | apply List.Sublist.cons_cons | apply List.Sublist.cons))) ?_))
    all_goals (first | (apply DW.done_thn; (· decide +kernel)) | (apply DW.done; (· decide +kernel)))
    repeat' (
      first
      | (
        first
        | (apply kp; iterate 2 exact rfl)
        | apply ja | apply jb | apply jg | apply jj | (apply je; exact rfl) | (apply jf; exact rfl) | apply jd | apply jh | apply ji | (apply jc; kernel_rfl) | apply jk | apply jl | apply jm | apply jn | apply jo | (apply jp; exact rfl) | apply jq | apply jr | apply js | apply jt | apply ju | apply jv | apply jw | apply kN | apply kM
        | (apply kf; iterate 2 exact rfl)
        | (apply ko; (· exact rfl); (· repeat (first | exact mH _ _ | apply mT)); iterate 2 exact rfl)
        | (apply ka; (· exact rfl); (· repeat (first | exact mH _ _ | apply mT)); iterate 2 exact rfl)
        | (apply kr; (· exact rfl); (· repeat (first | exact mH _ _ | apply mT)); iterate 3 exact rfl)
        | (apply ks; (· exact rfl); (· repeat (first | exact mH _ _ | apply mT)); iterate 2 exact rfl)
        | (apply kn; iterate 2 exact rfl)
        | (apply ke; iterate 2 exact rfl)
        | (apply kx; iterate 2 exact rfl)
        | (apply kc; iterate 2 exact rfl)
        | (apply kb; iterate 2 exact rfl)
        | (apply kg; iterate 2 exact rfl)
        | (apply kG; iterate 3 exact rfl)
        | (apply kB; (iterate 2 exact rfl); intro _)
        | (apply kA; exact rfl; intro _)
        | (apply kL; (iterate 3 exact rfl); (· repeat (first | exact BS.nil _ | (apply BS.int; exact rfl) | (apply BS.ptr; exact rfl) | (apply BS.slice; exact rfl) | (apply BS.agg; iterate 2 exact rfl))); intro _)
        | (apply kT; (iterate 2 exact rfl); (· repeat (first | exact sH _ _ _ | apply sT)); iterate 2 exact rfl)
        | (apply kS; (iterate 2 exact rfl); (· repeat (first | exact sH _ _ _ | apply sT)); exact rfl)
        | (apply kh; (iterate 2 exact rfl); (first | decide | omega); exact rfl)
        | (apply kl; (iterate 2 exact rfl); (first | decide | omega); exact rfl)
        )
      | ((first | (apply kR; (· exact rfl); (· exact rfl)) | (apply kQ; (· exact rfl))); all_goals (intro hc; try simp only [decide_eq_true_eq, decide_eq_false_iff_not, Bool.not_eq_true', Bool.not_eq_false', Bool.not_eq_true, Bool.not_eq_false, Bool.not_true, Bool.not_false, Int.not_lt, Int.not_le, List.cons.injEq, and_true, beq_iff_eq, beq_eq_false_iff_ne] at hc; try (exfalso; first | contradiction | omega)))
      )
    all_goals (
      (apply ret2c; (· exact rfl); (· exact inferInstance); (· exact rfl); (· (repeat (first | exact List.Mem.head _ | apply List.Mem.tail))); (· exact rfl); intro w' hS)
      have e : beginB k ps = true := by simp_all [beginB, okK]
      unfold beginM beginS beginE
      simp only [e, if_true, true_and]
      first
      | (rw [if_pos (by assumption)]; exact ⟨a1, c1, rfl, (front hS 4 rfl rfl).pair⟩)
      | (rw [if_neg (by simp_all)]; exact ⟨a1, c1, rfl, (front hS 4 rfl rfl).pair⟩)
      )
  all_goals (
    (apply ret2c; (· exact rfl); (· exact inferInstance); (· exact rfl); (· (repeat (first | exact List.Mem.head _ | apply List.Mem.tail))); (· exact rfl); intro w' hS)
    have e : beginB k ps = false := by simp_all [beginB, okK]
    unfold beginM beginS beginE
    simp only [e, Bool.false_eq_true, if_false, false_and]
    exact ⟨none, 0, rfl, (front (hS.nilsl 5 1) 5 rfl rfl).pair⟩)
structure Itm where
  k : Ky
  m : Msg
  p : Plc
def Itm.cells (x : Itm) (a : Option Addr) (c : Nat) : List Value := [.int .i64 x.k.t, .int .i64 x.k.s, .int .i64 x.k.r, .int .i64 x.k.q, .int .i64 x.m.kind, .int .i64 x.m.origin, .int .i64 x.m.life, .int .i64 x.m.id, .int .i64 x.m.part, .int .i64 x.m.parts, .int .i64 x.m.groups, .bool x.m.safe, .int .i64 x.m.stamp, .int .i64 x.m.rseq, .int .i64 x.m.rrep, .int .i64 x.m.kseq, .slice a x.m.body.length c, .int .i64 x.p.ring, .int .i64 x.p.seq, .int .i64 x.p.rep, .int .i64 x.p.members]
def Itm.val (x : Itm) (a : Option Addr) (c : Nat) : Value := .agg (x.cells a c).toArray
def plcI (p : Plc) : Prop := i64 p.ring ∧ i64 p.seq ∧ i64 p.rep ∧ i64 p.members
def itemM (g : Gt) (x : Itm) : Msg := if x.m.kind = 0 then chartM g.node (charts [x.p]).1 else if x.m.kind = 1 ∨ x.m.kind = 4 then x.m else zeroMsg
def itemB (g : Gt) (x : Itm) : Bool := if x.m.kind = 0 then decide ((charts [x.p]).2 = 0) else if x.m.kind = 1 ∨ x.m.kind = 4 then decide (check x.m = 0) else false
set_option maxHeartbeats 1000000 in
theorem g55 (b : Nat) (g : Gt) (x : Itm) (a : Option Addr) (c : Nat) (w : World) (h : Rd w (some ⟨b, 0, none⟩) g.cells) (hr : Rd w a (bv x.m.body)) (hz : a = none → c = 0) (hm : x.m.body.length ≤ 140737488355328) (hb : Byt x.m.body) (hp : plcI x.p) :
    CallsTo Try.prog 55 [.pointer (some ⟨b, 0, none⟩), x.val a c] w fun v w' => ∃ a2 c2, v = .tuple [(itemM g x).val a2 c2, .bool (itemB g x)].toArray ∧ NewSl w w' (.slice a2 (itemM g x).body.length c2) 5 1 (itemM g x).body.length (bv (itemM g x).body) := by
  refine go_in (n := 42) (St.rd2 h hr) Try.func55 rfl rfl ?_
  repeat' (
    first
    | (
      first
      | (apply kp; iterate 2 exact rfl)
      | apply ja | apply jb | apply jg | apply jj | (apply je; exact rfl) | (apply jf; exact rfl) | apply jd | apply jh | apply ji | (apply jc; kernel_rfl) | apply jk | apply jl | apply jm | apply jn | apply jo | (apply jp; exact rfl) | apply jq | apply jr | apply js | apply jt | apply ju | apply jv | apply jw | apply kN | apply kM
      | (apply kf; iterate 2 exact rfl)
      | (apply ko; (· exact rfl); (· repeat (first | exact mH _ _ | apply mT)); iterate 2 exact rfl)
      | (apply ka; (· exact rfl); (· repeat (first | exact mH _ _ | apply mT)); iterate 2 exact rfl)
      | (apply kr; (· exact rfl); (· repeat (first | exact mH _ _ | apply mT)); iterate 3 exact rfl)
      | (apply ks; (· exact rfl); (· repeat (first | exact mH _ _ | apply mT)); iterate 2 exact rfl)
      | (apply kn; iterate 2 exact rfl)
      | (apply ke; iterate 2 exact rfl)
      | (apply kx; iterate 2 exact rfl)
      | (apply kc; iterate 2 exact rfl)
      | (apply kb; iterate 2 exact rfl)
      | (apply kg; iterate 2 exact rfl)
      | (apply kG; iterate 3 exact rfl)
      | (apply kB; (iterate 2 exact rfl); intro _)
      | (apply kA; exact rfl; intro _)
      | (apply kL; (iterate 3 exact rfl); (· repeat (first | exact BS.nil _ | (apply BS.int; exact rfl) | (apply BS.ptr; exact rfl) | (apply BS.slice; exact rfl) | (apply BS.agg; iterate 2 exact rfl))); intro _)
      | (apply kT; (iterate 2 exact rfl); (· repeat (first | exact sH _ _ _ | apply sT)); iterate 2 exact rfl)
      | (apply kS; (iterate 2 exact rfl); (· repeat (first | exact sH _ _ _ | apply sT)); exact rfl)
      | (apply kh; (iterate 2 exact rfl); (first | decide | omega); exact rfl)
      | (apply kl; (iterate 2 exact rfl); (first | decide | omega); exact rfl)
      )
    | ((first | (apply kR; (· exact rfl); (· exact rfl)) | (apply kQ; (· exact rfl))); all_goals (intro hc; try simp only [decide_eq_true_eq, decide_eq_false_iff_not, Bool.not_eq_true', Bool.not_eq_false', Bool.not_eq_true, Bool.not_eq_false, Bool.not_true, Bool.not_false, Int.not_lt, Int.not_le, List.cons.injEq, and_true, beq_iff_eq, beq_eq_false_iff_ne] at hc; try (exfalso; first | contradiction | omega)))
    )
  · have hpi : plcsI [x.p] := fun q hq => by simp at hq; subst hq; exact hp
    apply LR.call
    · exact rfl
    intro w1 h1
    refine CallsTo.mono (show CallsTo Try.prog 67 [.slice (some ⟨_, 0, none⟩) 1 1] w1 _ from c28 _ 1 [x.p] w1 (h1.rd_of_blk (by (repeat (first | exact mH _ _ | apply mT)))) (by simp) hpi) ?_
    rintro v w2 ⟨a1, c1, rfl, hn1⟩
    refine LR.back (h1.newSl hn1) ?_
    clear hn1 h1
    repeat' (
      first
      | (
        first
        | (apply kp; iterate 2 exact rfl)
        | apply ja | apply jb | apply jg | apply jj | (apply je; exact rfl) | (apply jf; exact rfl) | apply jd | apply jh | apply ji | (apply jc; kernel_rfl) | apply jk | apply jl | apply jm | apply jn | apply jo | (apply jp; exact rfl) | apply jq | apply jr | apply js | apply jt | apply ju | apply jv | apply jw | apply kN | apply kM
        | (apply kf; iterate 2 exact rfl)
        | (apply ko; (· exact rfl); (· repeat (first | exact mH _ _ | apply mT)); iterate 2 exact rfl)
        | (apply ka; (· exact rfl); (· repeat (first | exact mH _ _ | apply mT)); iterate 2 exact rfl)
        | (apply kr; (· exact rfl); (· repeat (first | exact mH _ _ | apply mT)); iterate 3 exact rfl)
        | (apply ks; (· exact rfl); (· repeat (first | exact mH _ _ | apply mT)); iterate 2 exact rfl)
        | (apply kn; iterate 2 exact rfl)
        | (apply ke; iterate 2 exact rfl)
        | (apply kx; iterate 2 exact rfl)
        | (apply kc; iterate 2 exact rfl)
        | (apply kb; iterate 2 exact rfl)
        | (apply kg; iterate 2 exact rfl)
        | (apply kG; iterate 3 exact rfl)
        | (apply kB; (iterate 2 exact rfl); intro _)
        | (apply kA; exact rfl; intro _)
        | (apply kL; (iterate 3 exact rfl); (· repeat (first | exact BS.nil _ | (apply BS.int; exact rfl) | (apply BS.ptr; exact rfl) | (apply BS.slice; exact rfl) | (apply BS.agg; iterate 2 exact rfl))); intro _)
        | (apply kT; (iterate 2 exact rfl); (· repeat (first | exact sH _ _ _ | apply sT)); iterate 2 exact rfl)
        | (apply kS; (iterate 2 exact rfl); (· repeat (first | exact sH _ _ _ | apply sT)); exact rfl)
        | (apply kh; (iterate 2 exact rfl); (first | decide | omega); exact rfl)
        | (apply kl; (iterate 2 exact rfl); (first | decide | omega); exact rfl)
        )
      | ((first | (apply kR; (· exact rfl); (· exact rfl)) | (apply kQ; (· exact rfl))); all_goals (intro hc; try simp only [decide_eq_true_eq, decide_eq_false_iff_not, Bool.not_eq_true', Bool.not_eq_false', Bool.not_eq_true, Bool.not_eq_false, Bool.not_true, Bool.not_false, Int.not_lt, Int.not_le, List.cons.injEq, and_true, beq_iff_eq, beq_eq_false_iff_ne] at hc; try (exfalso; first | contradiction | omega)))
      )
    (apply ret2c; (· exact rfl); (· exact inferInstance); (· exact rfl); (· (repeat (first | exact List.Mem.head _ | apply List.Mem.tail))); (· exact rfl); intro w' hS)
    unfold itemM itemB
    simp only [if_pos (show x.m.kind = 0 by assumption)]
    exact ⟨a1, c1, rfl, hS.toNew (mH _ _)⟩
  rotate_right
  · (apply ret2c; (· exact rfl); (· exact inferInstance); (· exact rfl); (· (repeat (first | exact List.Mem.head _ | apply List.Mem.tail))); (· exact rfl); intro w' hS)
    unfold itemM itemB
    simp only [if_neg (show ¬ x.m.kind = 0 by assumption), if_neg (show ¬ (x.m.kind = 1 ∨ x.m.kind = 4) by simp_all)]
    exact ⟨none, 0, rfl, (hS.nilsl 5 1).toNew (mH _ _)⟩
  all_goals (
    have hk : x.m.kind = 1 ∨ x.m.kind = 4 := by simp_all
    apply LR.call
    · exact rfl
    intro w1 h1
    refine CallsTo.mono (show CallsTo Try.prog 46 [.slice a x.m.body.length c] w1 _ from c86 a c x.m.body w1 (h1.rd_of (by (repeat (first | exact mH _ _ | apply mT)))) hz hm) ?_
    rintro v w2 ⟨a1, c1, rfl, hn1⟩
    have hz1 := hn1.some_of
    refine LR.back (h1.newSl hn1) ?_
    clear hn1 h1
    repeat' (
      first
      | (apply CW.reg_held3)
      | (
        first
        | (apply kp; iterate 2 exact rfl)
        | apply ja | apply jb | apply jg | apply jj | (apply je; exact rfl) | (apply jf; exact rfl) | apply jd | apply jh | apply ji | (apply jc; kernel_rfl) | apply jk | apply jl | apply jm | apply jn | apply jo | (apply jp; exact rfl) | apply jq | apply jr | apply js | apply jt | apply ju | apply jv | apply jw | apply kN | apply kM
        | (apply kf; iterate 2 exact rfl)
        | (apply ko; (· exact rfl); (· repeat (first | exact mH _ _ | apply mT)); iterate 2 exact rfl)
        | (apply ka; (· exact rfl); (· repeat (first | exact mH _ _ | apply mT)); iterate 2 exact rfl)
        | (apply kr; (· exact rfl); (· repeat (first | exact mH _ _ | apply mT)); iterate 3 exact rfl)
        | (apply ks; (· exact rfl); (· repeat (first | exact mH _ _ | apply mT)); iterate 2 exact rfl)
        | (apply kn; iterate 2 exact rfl)
        | (apply ke; iterate 2 exact rfl)
        | (apply kx; iterate 2 exact rfl)
        | (apply kc; iterate 2 exact rfl)
        | (apply kb; iterate 2 exact rfl)
        | (apply kg; iterate 2 exact rfl)
        | (apply kG; iterate 3 exact rfl)
        | (apply kB; (iterate 2 exact rfl); intro _)
        | (apply kA; exact rfl; intro _)
        | (apply kL; (iterate 3 exact rfl); (· repeat (first | exact BS.nil _ | (apply BS.int; exact rfl) | (apply BS.ptr; exact rfl) | (apply BS.slice; exact rfl) | (apply BS.agg; iterate 2 exact rfl))); intro _)
        | (apply kT; (iterate 2 exact rfl); (· repeat (first | exact sH _ _ _ | apply sT)); iterate 2 exact rfl)
        | (apply kS; (iterate 2 exact rfl); (· repeat (first | exact sH _ _ _ | apply sT)); exact rfl)
        | (apply kh; (iterate 2 exact rfl); (first | decide | omega); exact rfl)
        | (apply kl; (iterate 2 exact rfl); (first | decide | omega); exact rfl)
        )
      | ((first | (apply kR; (· exact rfl); (· exact rfl)) | (apply kQ; (· exact rfl))); all_goals (intro hc; try simp only [decide_eq_true_eq, decide_eq_false_iff_not, Bool.not_eq_true', Bool.not_eq_false', Bool.not_eq_true, Bool.not_eq_false, Bool.not_true, Bool.not_false, Int.not_lt, Int.not_le, List.cons.injEq, and_true, beq_iff_eq, beq_eq_false_iff_ne] at hc; try (exfalso; first | contradiction | omega)))
      )
    all_goals (
      apply DW.quiet [0, 1]
      · decide +kernel
      · first | exact fun _ h => h | exact fun _ h => St.sub h (by repeat (first | exact List.Sublist.refl _ | apply List.Sublist.cons_cons | apply List.Sublist.cons))
      repeat' (
        first
        | (apply yp; iterate 3 exact rfl)
        | (apply QL.ev; exact rfl
           · first
             | (apply Ev.load_own; (· exact rfl); (· repeat (first | exact mH _ _ | apply mT)); exact rfl)
             | (apply Ev.load_agg; (· exact rfl); (· repeat (first | exact mH _ _ | apply mT)); exact rfl)
             | (apply Ev.load_rdq; (· exact rfl); (· repeat (first | exact mH _ _ | apply mT)); iterate 2 exact rfl)
             | (apply Ev.load_ardq; (· exact rfl); (· repeat (first | exact mH _ _ | apply mT)); exact rfl)
             | (apply Ev.fieldAddr; exact rfl)
             | (apply Ev.len; exact rfl)
             | (apply EqOf.eq; exact rfl)
             | (apply EqOf.ne; exact rfl)
             | (apply Ev.conv; exact rfl)
             | (apply Ev.buildN; exact rfl)
             | (apply Ev.shr; (iterate 2 exact rfl); first | decide | omega)
             | (apply Ev.shl; (iterate 2 exact rfl); first | decide | omega)
           · exact rfl)
        | (apply yq; iterate 5 exact rfl)
        | (apply QL.evg; iterate 3 exact rfl
           · first
             | (apply Ev.load_own; (· exact rfl); (· repeat (first | exact mH _ _ | apply mT)); exact rfl)
             | (apply Ev.load_agg; (· exact rfl); (· repeat (first | exact mH _ _ | apply mT)); exact rfl)
             | (apply Ev.load_rdq; (· exact rfl); (· repeat (first | exact mH _ _ | apply mT)); iterate 2 exact rfl)
             | (apply Ev.load_ardq; (· exact rfl); (· repeat (first | exact mH _ _ | apply mT)); exact rfl)
             | (apply Ev.fieldAddr; exact rfl)
             | (apply Ev.len; exact rfl)
             | (apply EqOf.eq; exact rfl)
             | (apply EqOf.ne; exact rfl)
             | (apply Ev.conv; exact rfl)
             | (apply Ev.buildN; exact rfl)
             | (apply Ev.shr; (iterate 2 exact rfl); first | decide | omega)
             | (apply Ev.shl; (iterate 2 exact rfl); first | decide | omega)
           · exact rfl)
        | (apply yn; iterate 4 exact rfl)
        | ((apply QL.split; (· exact rfl); (· exact rfl); (· exact rfl)); all_goals (intro hc; try simp only [decide_eq_true_eq, decide_eq_false_iff_not, Bool.not_eq_true', Bool.not_eq_false', Bool.not_eq_true, Bool.not_eq_false, Bool.not_true, Bool.not_false, Int.not_lt, Int.not_le, List.cons.injEq, and_true, beq_iff_eq, beq_eq_false_iff_ne] at hc; try (exfalso; first | contradiction | omega)))
        | apply QL.nil
        )
      all_goals (show DW _ _ _ _ _ _ _ _))
    all_goals (
      apply DW.loud 2
      · exact rfl
      · decide +kernel
      repeat' (
        first
        | (apply kg; iterate 2 exact rfl)
        | (apply kG; iterate 3 exact rfl)
        | apply kM
        | (
          first
          | (apply kp; iterate 2 exact rfl)
          | (apply ko; (· exact rfl); (· repeat (first | exact mH _ _ | apply mT)); iterate 2 exact rfl)
          | (apply ka; (· exact rfl); (· repeat (first | exact mH _ _ | apply mT)); iterate 2 exact rfl)
          | (apply kL; (iterate 3 exact rfl); (· repeat (first | exact BS.nil _ | (apply BS.int; exact rfl) | (apply BS.ptr; exact rfl) | (apply BS.slice; exact rfl) | (apply BS.agg; iterate 2 exact rfl))); intro _)
          | (apply kT; (iterate 2 exact rfl); (· repeat (first | exact sH _ _ _ | apply sT)); iterate 2 exact rfl)
          | (apply kS; (iterate 2 exact rfl); (· repeat (first | exact sH _ _ _ | apply sT)); exact rfl)
          | (apply kB; (iterate 2 exact rfl); intro _)
          | (apply kA; exact rfl; intro _)
          )
        | (apply kq; (· exact rfl); (· intro w1 h1; have hq := CallsTo.q (d17 x.m a1 c1 w1 (h1.rd_of_own (mH _ _)) (fun e => (hz1 e).2) hm hb) h1; show CallsTo Try.prog 43 [x.m.val a1 c1] w1 _; exact hq))
        )
      all_goals (refine At.stage_same (fun _ h => St.sub h (by repeat (first | exact List.Sublist.refl _ | apply List.Sublist.cons_cons | apply List.Sublist.cons))) ?_))
    all_goals (
      apply DW.quiet [3]
      · decide +kernel
      · first | exact fun _ h => h | exact fun _ h => St.sub h (by repeat (first | exact List.Sublist.refl _ | apply List.Sublist.cons_cons | apply List.Sublist.cons))
      repeat' (
        first
        | (apply yp; iterate 3 exact rfl)
        | (apply QL.ev; exact rfl
           · first
             | (apply Ev.load_own; (· exact rfl); (· repeat (first | exact mH _ _ | apply mT)); exact rfl)
             | (apply Ev.load_agg; (· exact rfl); (· repeat (first | exact mH _ _ | apply mT)); exact rfl)
             | (apply Ev.load_rdq; (· exact rfl); (· repeat (first | exact mH _ _ | apply mT)); iterate 2 exact rfl)
             | (apply Ev.load_ardq; (· exact rfl); (· repeat (first | exact mH _ _ | apply mT)); exact rfl)
             | (apply Ev.fieldAddr; exact rfl)
             | (apply Ev.len; exact rfl)
             | (apply EqOf.eq; exact rfl)
             | (apply EqOf.ne; exact rfl)
             | (apply Ev.conv; exact rfl)
             | (apply Ev.buildN; exact rfl)
             | (apply Ev.shr; (iterate 2 exact rfl); first | decide | omega)
             | (apply Ev.shl; (iterate 2 exact rfl); first | decide | omega)
           · exact rfl)
        | (apply yq; iterate 5 exact rfl)
        | (apply QL.evg; iterate 3 exact rfl
           · first
             | (apply Ev.load_own; (· exact rfl); (· repeat (first | exact mH _ _ | apply mT)); exact rfl)
             | (apply Ev.load_agg; (· exact rfl); (· repeat (first | exact mH _ _ | apply mT)); exact rfl)
             | (apply Ev.load_rdq; (· exact rfl); (· repeat (first | exact mH _ _ | apply mT)); iterate 2 exact rfl)
             | (apply Ev.load_ardq; (· exact rfl); (· repeat (first | exact mH _ _ | apply mT)); exact rfl)
             | (apply Ev.fieldAddr; exact rfl)
             | (apply Ev.len; exact rfl)
             | (apply EqOf.eq; exact rfl)
             | (apply EqOf.ne; exact rfl)
             | (apply Ev.conv; exact rfl)
             | (apply Ev.buildN; exact rfl)
             | (apply Ev.shr; (iterate 2 exact rfl); first | decide | omega)
             | (apply Ev.shl; (iterate 2 exact rfl); first | decide | omega)
           · exact rfl)
        | (apply yn; iterate 4 exact rfl)
        | ((apply QL.split; (· exact rfl); (· exact rfl); (· exact rfl)); all_goals (intro hc; try simp only [decide_eq_true_eq, decide_eq_false_iff_not, Bool.not_eq_true', Bool.not_eq_false', Bool.not_eq_true, Bool.not_eq_false, Bool.not_true, Bool.not_false, Int.not_lt, Int.not_le, List.cons.injEq, and_true, beq_iff_eq, beq_eq_false_iff_ne] at hc; try (exfalso; first | contradiction | omega)))
        | apply QL.nil
        )
      all_goals (show DW _ _ _ _ _ _ _ _))
    all_goals (
      apply DW.loud 4
      · exact rfl
      · decide +kernel
      repeat' (
        first
        | (apply kg; iterate 2 exact rfl)
        | (apply kG; iterate 3 exact rfl)
        | apply kM
        | (
          first
          | (apply kp; iterate 2 exact rfl)
          | (apply ko; (· exact rfl); (· repeat (first | exact mH _ _ | apply mT)); iterate 2 exact rfl)
          | (apply ka; (· exact rfl); (· repeat (first | exact mH _ _ | apply mT)); iterate 2 exact rfl)
          | (apply kL; (iterate 3 exact rfl); (· repeat (first | exact BS.nil _ | (apply BS.int; exact rfl) | (apply BS.ptr; exact rfl) | (apply BS.slice; exact rfl) | (apply BS.agg; iterate 2 exact rfl))); intro _)
          | (apply kT; (iterate 2 exact rfl); (· repeat (first | exact sH _ _ _ | apply sT)); iterate 2 exact rfl)
          | (apply kS; (iterate 2 exact rfl); (· repeat (first | exact sH _ _ _ | apply sT)); exact rfl)
          | (apply kB; (iterate 2 exact rfl); intro _)
          | (apply kA; exact rfl; intro _)
          )
        | (apply kq; (· exact rfl); (· intro w1 h1; have hq := CallsTo.q (d17 x.m a1 c1 w1 (h1.rd_of_own (mH _ _)) (fun e => (hz1 e).2) hm hb) h1; show CallsTo Try.prog 43 [x.m.val a1 c1] w1 _; exact hq))
        )
      all_goals (refine At.stage_same (fun _ h => St.sub h (by repeat (first | exact List.Sublist.refl _ | apply List.Sublist.cons_cons | apply List.Sublist.cons))) ?_))
    all_goals (
      apply DW.quiet [5]
      · decide +kernel
      · first | exact fun _ h => h | exact fun _ h => St.sub h (by repeat (first | exact List.Sublist.refl _ | apply List.Sublist.cons_cons | apply List.Sublist.cons))
      repeat' (
        first
        | (apply yp; iterate 3 exact rfl)
        | (apply QL.ev; exact rfl
           · first
             | (apply Ev.load_own; (· exact rfl); (· repeat (first | exact mH _ _ | apply mT)); exact rfl)
             | (apply Ev.load_agg; (· exact rfl); (· repeat (first | exact mH _ _ | apply mT)); exact rfl)
             | (apply Ev.load_rdq; (· exact rfl); (· repeat (first | exact mH _ _ | apply mT)); iterate 2 exact rfl)
             | (apply Ev.load_ardq; (· exact rfl); (· repeat (first | exact mH _ _ | apply mT)); exact rfl)
             | (apply Ev.fieldAddr; exact rfl)
             | (apply Ev.len; exact rfl)
             | (apply EqOf.eq; exact rfl)
             | (apply EqOf.ne; exact rfl)
             | (apply Ev.conv; exact rfl)
             | (apply Ev.buildN; exact rfl)
             | (apply Ev.shr; (iterate 2 exact rfl); first | decide | omega)
             | (apply Ev.shl; (iterate 2 exact rfl); first | decide | omega)
           · exact rfl)
        | (apply yq; iterate 5 exact rfl)
        | (apply QL.evg; iterate 3 exact rfl
           · first
             | (apply Ev.load_own; (· exact rfl); (· repeat (first | exact mH _ _ | apply mT)); exact rfl)
             | (apply Ev.load_agg; (· exact rfl); (· repeat (first | exact mH _ _ | apply mT)); exact rfl)
             | (apply Ev.load_rdq; (· exact rfl); (· repeat (first | exact mH _ _ | apply mT)); iterate 2 exact rfl)
             | (apply Ev.load_ardq; (· exact rfl); (· repeat (first | exact mH _ _ | apply mT)); exact rfl)
             | (apply Ev.fieldAddr; exact rfl)
             | (apply Ev.len; exact rfl)
             | (apply EqOf.eq; exact rfl)
             | (apply EqOf.ne; exact rfl)
             | (apply Ev.conv; exact rfl)
             | (apply Ev.buildN; exact rfl)
             | (apply Ev.shr; (iterate 2 exact rfl); first | decide | omega)
             | (apply Ev.shl; (iterate 2 exact rfl); first | decide | omega)
           · exact rfl)
        | (apply yn; iterate 4 exact rfl)
        | ((apply QL.split; (· exact rfl); (· exact rfl); (· exact rfl)); all_goals (intro hc; try simp only [decide_eq_true_eq, decide_eq_false_iff_not, Bool.not_eq_true', Bool.not_eq_false', Bool.not_eq_true, Bool.not_eq_false, Bool.not_true, Bool.not_false, Int.not_lt, Int.not_le, List.cons.injEq, and_true, beq_iff_eq, beq_eq_false_iff_ne] at hc; try (exfalso; first | contradiction | omega)))
        | apply QL.nil
        )
      all_goals (show DW _ _ _ _ _ _ _ _))
    all_goals (first | (apply DW.done_thn; (· decide +kernel)) | (apply DW.done; (· decide +kernel)))
    repeat' (
      first
      | (
        first
        | (apply kp; iterate 2 exact rfl)
        | apply ja | apply jb | apply jg | apply jj | (apply je; exact rfl) | (apply jf; exact rfl) | apply jd | apply jh | apply ji | (apply jc; kernel_rfl) | apply jk | apply jl | apply jm | apply jn | apply jo | (apply jp; exact rfl) | apply jq | apply jr | apply js | apply jt | apply ju | apply jv | apply jw | apply kN | apply kM
        | (apply kf; iterate 2 exact rfl)
        | (apply ko; (· exact rfl); (· repeat (first | exact mH _ _ | apply mT)); iterate 2 exact rfl)
        | (apply ka; (· exact rfl); (· repeat (first | exact mH _ _ | apply mT)); iterate 2 exact rfl)
        | (apply kr; (· exact rfl); (· repeat (first | exact mH _ _ | apply mT)); iterate 3 exact rfl)
        | (apply ks; (· exact rfl); (· repeat (first | exact mH _ _ | apply mT)); iterate 2 exact rfl)
        | (apply kn; iterate 2 exact rfl)
        | (apply ke; iterate 2 exact rfl)
        | (apply kx; iterate 2 exact rfl)
        | (apply kc; iterate 2 exact rfl)
        | (apply kb; iterate 2 exact rfl)
        | (apply kg; iterate 2 exact rfl)
        | (apply kG; iterate 3 exact rfl)
        | (apply kB; (iterate 2 exact rfl); intro _)
        | (apply kA; exact rfl; intro _)
        | (apply kL; (iterate 3 exact rfl); (· repeat (first | exact BS.nil _ | (apply BS.int; exact rfl) | (apply BS.ptr; exact rfl) | (apply BS.slice; exact rfl) | (apply BS.agg; iterate 2 exact rfl))); intro _)
        | (apply kT; (iterate 2 exact rfl); (· repeat (first | exact sH _ _ _ | apply sT)); iterate 2 exact rfl)
        | (apply kS; (iterate 2 exact rfl); (· repeat (first | exact sH _ _ _ | apply sT)); exact rfl)
        | (apply kh; (iterate 2 exact rfl); (first | decide | omega); exact rfl)
        | (apply kl; (iterate 2 exact rfl); (first | decide | omega); exact rfl)
        )
      | ((first | (apply kR; (· exact rfl); (· exact rfl)) | (apply kQ; (· exact rfl))); all_goals (intro hc; try simp only [decide_eq_true_eq, decide_eq_false_iff_not, Bool.not_eq_true', Bool.not_eq_false', Bool.not_eq_true, Bool.not_eq_false, Bool.not_true, Bool.not_false, Int.not_lt, Int.not_le, List.cons.injEq, and_true, beq_iff_eq, beq_eq_false_iff_ne] at hc; try (exfalso; first | contradiction | omega)))
      )
    (apply ret2c; (· exact rfl); (· exact inferInstance); (· exact rfl); (· (repeat (first | exact List.Mem.head _ | apply List.Mem.tail))); (· exact rfl); intro w' hS)
    unfold itemM itemB
    simp only [if_neg (show ¬ x.m.kind = 0 by assumption), if_pos hk]
    exact ⟨a1, c1, rfl, hS.toNew (by (repeat (first | exact mH _ _ | apply mT)))⟩)
def fromM (m : Msg) (k : Ky) : Msg := { m with stamp := k.t, rseq := k.s, rrep := k.r, kseq := k.q }
def passB (g : Gt) (x : Itm) : Bool := aboveB x.k g.p && itemB g x
def passM (g : Gt) (x : Itm) : Msg := if passB g x = true then fromM (itemM g x) x.k else zeroMsg
def passS (g : Gt) (x : Itm) : Gt := if passB g x = true then { g with p := x.k } else g
set_option maxHeartbeats 1000000 in
theorem g32 (b : Nat) (g : Gt) (x : Itm) (a : Option Addr) (c : Nat) (w : World) (h : w.heap[b]? = some (.cells g.cells.toArray 95 (0, 0))) (hn : g.node ≠ 0) (hr : Rd w a (bv x.m.body)) (hd : ∀ y, rdFoot a (bv x.m.body) y → y ≠ b) (hz : a = none → c = 0) (hm : x.m.body.length ≤ 140737488355328) (hb : Byt x.m.body) (hp : plcI x.p) :
    CallsTo Try.prog 32 [.pointer (some ⟨b, 0, none⟩), x.val a c] w fun v w' => ∃ a2 c2, v = .tuple [(passM g x).val a2 c2, .bool (passB g x)].toArray ∧
      St w (gO 95 b g).foot [gO 95 b (passS g x), osl (.slice a2 (passM g x).body.length c2) 5 1 (passM g x).body.length (bv (passM g x).body)] w' := by
  refine go_in (n := 39) ((gO_in h).addRd hr hd) Try.func32 rfl rfl ?_
  repeat' (
    first
    | (apply CW.reg_heldC)
    | (
      first
      | (apply kp; iterate 2 exact rfl)
      | apply ja | apply jb | apply jg | apply jj | (apply je; exact rfl) | (apply jf; exact rfl) | apply jd | apply jh | apply ji | (apply jc; kernel_rfl) | apply jk | apply jl | apply jm | apply jn | apply jo | (apply jp; exact rfl) | apply jq | apply jr | apply js | apply jt | apply ju | apply jv | apply jw | apply kN | apply kM
      | (apply kf; iterate 2 exact rfl)
      | (apply ko; (· exact rfl); (· repeat (first | exact mH _ _ | apply mT)); iterate 2 exact rfl)
      | (apply ka; (· exact rfl); (· repeat (first | exact mH _ _ | apply mT)); iterate 2 exact rfl)
      | (apply kr; (· exact rfl); (· repeat (first | exact mH _ _ | apply mT)); iterate 3 exact rfl)
      | (apply ks; (· exact rfl); (· repeat (first | exact mH _ _ | apply mT)); iterate 2 exact rfl)
      | (apply kn; iterate 2 exact rfl)
      | (apply ke; iterate 2 exact rfl)
      | (apply kx; iterate 2 exact rfl)
      | (apply kc; iterate 2 exact rfl)
      | (apply kb; iterate 2 exact rfl)
      | (apply kg; iterate 2 exact rfl)
      | (apply kG; iterate 3 exact rfl)
      | (apply kB; (iterate 2 exact rfl); intro _)
      | (apply kA; exact rfl; intro _)
      | (apply kL; (iterate 3 exact rfl); (· repeat (first | exact BS.nil _ | (apply BS.int; exact rfl) | (apply BS.ptr; exact rfl) | (apply BS.slice; exact rfl) | (apply BS.agg; iterate 2 exact rfl))); intro _)
      | (apply kT; (iterate 2 exact rfl); (· repeat (first | exact sH _ _ _ | apply sT)); iterate 2 exact rfl)
      | (apply kS; (iterate 2 exact rfl); (· repeat (first | exact sH _ _ _ | apply sT)); exact rfl)
      | (apply kh; (iterate 2 exact rfl); (first | decide | omega); exact rfl)
      | (apply kl; (iterate 2 exact rfl); (first | decide | omega); exact rfl)
      )
    | ((first | (apply kR; (· exact rfl); (· exact rfl)) | (apply kQ; (· exact rfl))); all_goals (intro hc; try simp only [decide_eq_true_eq, decide_eq_false_iff_not, Bool.not_eq_true', Bool.not_eq_false', Bool.not_eq_true, Bool.not_eq_false, Bool.not_true, Bool.not_false, Int.not_lt, Int.not_le, List.cons.injEq, and_true, beq_iff_eq, beq_eq_false_iff_ne] at hc; try (exfalso; first | contradiction | omega)))
    )
  all_goals (
    apply DW.quiet [0]
    · decide +kernel
    · first | exact fun _ h => h | exact fun _ h => St.sub h (by repeat (first | exact List.Sublist.refl _ | apply List.Sublist.cons_cons | apply List.Sublist.cons))
    repeat' (
      first
      | (apply yp; iterate 3 exact rfl)
      | (apply QL.ev; exact rfl
         · first
           | (apply Ev.load_own; (· exact rfl); (· repeat (first | exact mH _ _ | apply mT)); exact rfl)
           | (apply Ev.load_agg; (· exact rfl); (· repeat (first | exact mH _ _ | apply mT)); exact rfl)
           | (apply Ev.load_rdq; (· exact rfl); (· repeat (first | exact mH _ _ | apply mT)); iterate 2 exact rfl)
           | (apply Ev.load_ardq; (· exact rfl); (· repeat (first | exact mH _ _ | apply mT)); exact rfl)
           | (apply Ev.fieldAddr; exact rfl)
           | (apply Ev.len; exact rfl)
           | (apply EqOf.eq; exact rfl)
           | (apply EqOf.ne; exact rfl)
           | (apply Ev.conv; exact rfl)
           | (apply Ev.buildN; exact rfl)
           | (apply Ev.shr; (iterate 2 exact rfl); first | decide | omega)
           | (apply Ev.shl; (iterate 2 exact rfl); first | decide | omega)
         · exact rfl)
      | (apply yq; iterate 5 exact rfl)
      | (apply QL.evg; iterate 3 exact rfl
         · first
           | (apply Ev.load_own; (· exact rfl); (· repeat (first | exact mH _ _ | apply mT)); exact rfl)
           | (apply Ev.load_agg; (· exact rfl); (· repeat (first | exact mH _ _ | apply mT)); exact rfl)
           | (apply Ev.load_rdq; (· exact rfl); (· repeat (first | exact mH _ _ | apply mT)); iterate 2 exact rfl)
           | (apply Ev.load_ardq; (· exact rfl); (· repeat (first | exact mH _ _ | apply mT)); exact rfl)
           | (apply Ev.fieldAddr; exact rfl)
           | (apply Ev.len; exact rfl)
           | (apply EqOf.eq; exact rfl)
           | (apply EqOf.ne; exact rfl)
           | (apply Ev.conv; exact rfl)
           | (apply Ev.buildN; exact rfl)
           | (apply Ev.shr; (iterate 2 exact rfl); first | decide | omega)
           | (apply Ev.shl; (iterate 2 exact rfl); first | decide | omega)
         · exact rfl)
      | (apply yn; iterate 4 exact rfl)
      | ((apply QL.split; (· exact rfl); (· exact rfl); (· exact rfl)); all_goals (intro hc; try simp only [decide_eq_true_eq, decide_eq_false_iff_not, Bool.not_eq_true', Bool.not_eq_false', Bool.not_eq_true, Bool.not_eq_false, Bool.not_true, Bool.not_false, Int.not_lt, Int.not_le, List.cons.injEq, and_true, beq_iff_eq, beq_eq_false_iff_ne] at hc; try (exfalso; first | contradiction | omega)))
      | apply QL.nil
      )
    all_goals (show DW _ _ _ _ _ _ _ _))
  all_goals (
    apply DW.loud 1
    · exact rfl
    · decide +kernel
    repeat' (
      first
      | (apply kg; iterate 2 exact rfl)
      | (apply kG; iterate 3 exact rfl)
      | apply kM
      | (
        first
        | (apply kp; iterate 2 exact rfl)
        | (apply ko; (· exact rfl); (· repeat (first | exact mH _ _ | apply mT)); iterate 2 exact rfl)
        | (apply ka; (· exact rfl); (· repeat (first | exact mH _ _ | apply mT)); iterate 2 exact rfl)
        | (apply kL; (iterate 3 exact rfl); (· repeat (first | exact BS.nil _ | (apply BS.int; exact rfl) | (apply BS.ptr; exact rfl) | (apply BS.slice; exact rfl) | (apply BS.agg; iterate 2 exact rfl))); intro _)
        | (apply kT; (iterate 2 exact rfl); (· repeat (first | exact sH _ _ _ | apply sT)); iterate 2 exact rfl)
        | (apply kS; (iterate 2 exact rfl); (· repeat (first | exact sH _ _ _ | apply sT)); exact rfl)
        | (apply kB; (iterate 2 exact rfl); intro _)
        | (apply kA; exact rfl; intro _)
        )
      | (apply kq; (· exact rfl); (· intro w1 h1; exact CallsTo.q (g53 b g w1 (h1.rd_of_blk (by (repeat (first | exact mH _ _ | apply mT))))) h1))
      | (apply kq; (· exact rfl); (· intro w1 h1; exact CallsTo.q (g54 x.k g.p w1) h1))
      )
    all_goals (refine At.stage_same (fun _ h => St.sub h (by repeat (first | exact List.Sublist.refl _ | apply List.Sublist.cons_cons | apply List.Sublist.cons))) ?_))
  all_goals (
    apply DW.quiet [2, 3, 4, 5, 6, 7, 8]
    · decide +kernel
    · first | exact fun _ h => h | exact fun _ h => St.sub h (by repeat (first | exact List.Sublist.refl _ | apply List.Sublist.cons_cons | apply List.Sublist.cons))
    repeat' (
      first
      | (apply yp; iterate 3 exact rfl)
      | (apply QL.ev; exact rfl
         · first
           | (apply Ev.load_own; (· exact rfl); (· repeat (first | exact mH _ _ | apply mT)); exact rfl)
           | (apply Ev.load_agg; (· exact rfl); (· repeat (first | exact mH _ _ | apply mT)); exact rfl)
           | (apply Ev.load_rdq; (· exact rfl); (· repeat (first | exact mH _ _ | apply mT)); iterate 2 exact rfl)
           | (apply Ev.load_ardq; (· exact rfl); (· repeat (first | exact mH _ _ | apply mT)); exact rfl)
           | (apply Ev.fieldAddr; exact rfl)
           | (apply Ev.len; exact rfl)
           | (apply EqOf.eq; exact rfl)
           | (apply EqOf.ne; exact rfl)
           | (apply Ev.conv; exact rfl)
           | (apply Ev.buildN; exact rfl)
           | (apply Ev.shr; (iterate 2 exact rfl); first | decide | omega)
           | (apply Ev.shl; (iterate 2 exact rfl); first | decide | omega)
         · exact rfl)
      | (apply yq; iterate 5 exact rfl)
      | (apply QL.evg; iterate 3 exact rfl
         · first
           | (apply Ev.load_own; (· exact rfl); (· repeat (first | exact mH _ _ | apply mT)); exact rfl)
           | (apply Ev.load_agg; (· exact rfl); (· repeat (first | exact mH _ _ | apply mT)); exact rfl)
           | (apply Ev.load_rdq; (· exact rfl); (· repeat (first | exact mH _ _ | apply mT)); iterate 2 exact rfl)
           | (apply Ev.load_ardq; (· exact rfl); (· repeat (first | exact mH _ _ | apply mT)); exact rfl)
           | (apply Ev.fieldAddr; exact rfl)
           | (apply Ev.len; exact rfl)
           | (apply EqOf.eq; exact rfl)
           | (apply EqOf.ne; exact rfl)
           | (apply Ev.conv; exact rfl)
           | (apply Ev.buildN; exact rfl)
           | (apply Ev.shr; (iterate 2 exact rfl); first | decide | omega)
           | (apply Ev.shl; (iterate 2 exact rfl); first | decide | omega)
         · exact rfl)
      | (apply yn; iterate 4 exact rfl)
      | ((apply QL.split; (· exact rfl); (· exact rfl); (· exact rfl)); all_goals (intro hc; try simp only [decide_eq_true_eq, decide_eq_false_iff_not, Bool.not_eq_true', Bool.not_eq_false', Bool.not_eq_true, Bool.not_eq_false, Bool.not_true, Bool.not_false, Int.not_lt, Int.not_le, List.cons.injEq, and_true, beq_iff_eq, beq_eq_false_iff_ne] at hc; try (exfalso; first | contradiction | omega)))
      | apply QL.nil
      )
    all_goals (show DW _ _ _ _ _ _ _ _))
  all_goals (
    apply DW.loud 9
    · exact rfl
    · decide +kernel
    repeat' (
      first
      | (apply kg; iterate 2 exact rfl)
      | (apply kG; iterate 3 exact rfl)
      | apply kM
      | (
        first
        | (apply kp; iterate 2 exact rfl)
        | (apply ko; (· exact rfl); (· repeat (first | exact mH _ _ | apply mT)); iterate 2 exact rfl)
        | (apply ka; (· exact rfl); (· repeat (first | exact mH _ _ | apply mT)); iterate 2 exact rfl)
        | (apply kL; (iterate 3 exact rfl); (· repeat (first | exact BS.nil _ | (apply BS.int; exact rfl) | (apply BS.ptr; exact rfl) | (apply BS.slice; exact rfl) | (apply BS.agg; iterate 2 exact rfl))); intro _)
        | (apply kT; (iterate 2 exact rfl); (· repeat (first | exact sH _ _ _ | apply sT)); iterate 2 exact rfl)
        | (apply kS; (iterate 2 exact rfl); (· repeat (first | exact sH _ _ _ | apply sT)); exact rfl)
        | (apply kB; (iterate 2 exact rfl); intro _)
        | (apply kA; exact rfl; intro _)
        )
      | (apply kq; (· exact rfl); (· intro w1 h1; exact CallsTo.q (g53 b g w1 (h1.rd_of_blk (by (repeat (first | exact mH _ _ | apply mT))))) h1))
      | (apply kq; (· exact rfl); (· intro w1 h1; exact CallsTo.q (g54 x.k g.p w1) h1))
      )
    all_goals (refine At.stage_same (fun _ h => St.sub h (by repeat (first | exact List.Sublist.refl _ | apply List.Sublist.cons_cons | apply List.Sublist.cons))) ?_))
  all_goals (
    apply DW.quiet [10, 11]
    · decide +kernel
    · first | exact fun _ h => h | exact fun _ h => St.sub h (by repeat (first | exact List.Sublist.refl _ | apply List.Sublist.cons_cons | apply List.Sublist.cons))
    repeat' (
      first
      | (apply yp; iterate 3 exact rfl)
      | (apply QL.ev; exact rfl
         · first
           | (apply Ev.load_own; (· exact rfl); (· repeat (first | exact mH _ _ | apply mT)); exact rfl)
           | (apply Ev.load_agg; (· exact rfl); (· repeat (first | exact mH _ _ | apply mT)); exact rfl)
           | (apply Ev.load_rdq; (· exact rfl); (· repeat (first | exact mH _ _ | apply mT)); iterate 2 exact rfl)
           | (apply Ev.load_ardq; (· exact rfl); (· repeat (first | exact mH _ _ | apply mT)); exact rfl)
           | (apply Ev.fieldAddr; exact rfl)
           | (apply Ev.len; exact rfl)
           | (apply EqOf.eq; exact rfl)
           | (apply EqOf.ne; exact rfl)
           | (apply Ev.conv; exact rfl)
           | (apply Ev.buildN; exact rfl)
           | (apply Ev.shr; (iterate 2 exact rfl); first | decide | omega)
           | (apply Ev.shl; (iterate 2 exact rfl); first | decide | omega)
         · exact rfl)
      | (apply yq; iterate 5 exact rfl)
      | (apply QL.evg; iterate 3 exact rfl
         · first
           | (apply Ev.load_own; (· exact rfl); (· repeat (first | exact mH _ _ | apply mT)); exact rfl)
           | (apply Ev.load_agg; (· exact rfl); (· repeat (first | exact mH _ _ | apply mT)); exact rfl)
           | (apply Ev.load_rdq; (· exact rfl); (· repeat (first | exact mH _ _ | apply mT)); iterate 2 exact rfl)
           | (apply Ev.load_ardq; (· exact rfl); (· repeat (first | exact mH _ _ | apply mT)); exact rfl)
           | (apply Ev.fieldAddr; exact rfl)
           | (apply Ev.len; exact rfl)
           | (apply EqOf.eq; exact rfl)
           | (apply EqOf.ne; exact rfl)
           | (apply Ev.conv; exact rfl)
           | (apply Ev.buildN; exact rfl)
           | (apply Ev.shr; (iterate 2 exact rfl); first | decide | omega)
           | (apply Ev.shl; (iterate 2 exact rfl); first | decide | omega)
         · exact rfl)
      | (apply yn; iterate 4 exact rfl)
      | ((apply QL.split; (· exact rfl); (· exact rfl); (· exact rfl)); all_goals (intro hc; try simp only [decide_eq_true_eq, decide_eq_false_iff_not, Bool.not_eq_true', Bool.not_eq_false', Bool.not_eq_true, Bool.not_eq_false, Bool.not_true, Bool.not_false, Int.not_lt, Int.not_le, List.cons.injEq, and_true, beq_iff_eq, beq_eq_false_iff_ne] at hc; try (exfalso; first | contradiction | omega)))
      | apply QL.nil
      )
    all_goals (show DW _ _ _ _ _ _ _ _))
  all_goals (first | (apply DW.done_thn; (· decide +kernel)) | (apply DW.done; (· decide +kernel)))
  repeat' (
    first
    | (
      first
      | (apply kp; iterate 2 exact rfl)
      | apply ja | apply jb | apply jg | apply jj | (apply je; exact rfl) | (apply jf; exact rfl) | apply jd | apply jh | apply ji | (apply jc; kernel_rfl) | apply jk | apply jl | apply jm | apply jn | apply jo | (apply jp; exact rfl) | apply jq | apply jr | apply js | apply jt | apply ju | apply jv | apply jw | apply kN | apply kM
      | (apply kf; iterate 2 exact rfl)
      | (apply ko; (· exact rfl); (· repeat (first | exact mH _ _ | apply mT)); iterate 2 exact rfl)
      | (apply ka; (· exact rfl); (· repeat (first | exact mH _ _ | apply mT)); iterate 2 exact rfl)
      | (apply kr; (· exact rfl); (· repeat (first | exact mH _ _ | apply mT)); iterate 3 exact rfl)
      | (apply ks; (· exact rfl); (· repeat (first | exact mH _ _ | apply mT)); iterate 2 exact rfl)
      | (apply kn; iterate 2 exact rfl)
      | (apply ke; iterate 2 exact rfl)
      | (apply kx; iterate 2 exact rfl)
      | (apply kc; iterate 2 exact rfl)
      | (apply kb; iterate 2 exact rfl)
      | (apply kg; iterate 2 exact rfl)
      | (apply kG; iterate 3 exact rfl)
      | (apply kB; (iterate 2 exact rfl); intro _)
      | (apply kA; exact rfl; intro _)
      | (apply kL; (iterate 3 exact rfl); (· repeat (first | exact BS.nil _ | (apply BS.int; exact rfl) | (apply BS.ptr; exact rfl) | (apply BS.slice; exact rfl) | (apply BS.agg; iterate 2 exact rfl))); intro _)
      | (apply kT; (iterate 2 exact rfl); (· repeat (first | exact sH _ _ _ | apply sT)); iterate 2 exact rfl)
      | (apply kS; (iterate 2 exact rfl); (· repeat (first | exact sH _ _ _ | apply sT)); exact rfl)
      | (apply kh; (iterate 2 exact rfl); (first | decide | omega); exact rfl)
      | (apply kl; (iterate 2 exact rfl); (first | decide | omega); exact rfl)
      )
    | ((first | (apply kR; (· exact rfl); (· exact rfl)) | (apply kQ; (· exact rfl))); all_goals (intro hc; try simp only [decide_eq_true_eq, decide_eq_false_iff_not, Bool.not_eq_true', Bool.not_eq_false', Bool.not_eq_true, Bool.not_eq_false, Bool.not_true, Bool.not_false, Int.not_lt, Int.not_le, List.cons.injEq, and_true, beq_iff_eq, beq_eq_false_iff_ne] at hc; try (exfalso; first | contradiction | omega)))
    )
  · (apply ret2c; (· exact rfl); (· exact inferInstance); (· exact rfl); (· (repeat (first | exact List.Mem.head _ | apply List.Mem.tail))); (· exact rfl); intro w' hS)
    have e : passB g x = false := by simp_all [passB]
    unfold passM passS
    simp only [e, Bool.false_eq_true, if_false]
    exact ⟨none, 0, rfl, (front (hS.nilsl 5 1) 4 rfl rfl).pair⟩
  apply LR.call
  · exact rfl
  intro w1 h1
  refine CallsTo.mono (show CallsTo Try.prog 55 [.pointer (some ⟨b, 0, none⟩), x.val a c] w1 _ from g55 b g x a c w1 (h1.rd_of_blk (by (repeat (first | exact mH _ _ | apply mT)))) (h1.rd_of (by (repeat (first | exact mH _ _ | apply mT)))) hz hm hb hp) ?_
  rintro v w2 ⟨a1, c1, rfl, hn1⟩
  refine LR.back (h1.newSl hn1) ?_
  clear hn1 h1
  repeat' (
    first
    | (apply CW.reg_held (St w (gO 95 b g).foot [.own _ (.cells (x.cells a c).toArray 72 (0, 0))]))
    | (
      first
      | (apply kp; iterate 2 exact rfl)
      | apply ja | apply jb | apply jg | apply jj | (apply je; exact rfl) | (apply jf; exact rfl) | apply jd | apply jh | apply ji | (apply jc; kernel_rfl) | apply jk | apply jl | apply jm | apply jn | apply jo | (apply jp; exact rfl) | apply jq | apply jr | apply js | apply jt | apply ju | apply jv | apply jw | apply kN | apply kM
      | (apply kf; iterate 2 exact rfl)
      | (apply ko; (· exact rfl); (· repeat (first | exact mH _ _ | apply mT)); iterate 2 exact rfl)
      | (apply ka; (· exact rfl); (· repeat (first | exact mH _ _ | apply mT)); iterate 2 exact rfl)
      | (apply kr; (· exact rfl); (· repeat (first | exact mH _ _ | apply mT)); iterate 3 exact rfl)
      | (apply ks; (· exact rfl); (· repeat (first | exact mH _ _ | apply mT)); iterate 2 exact rfl)
      | (apply kn; iterate 2 exact rfl)
      | (apply ke; iterate 2 exact rfl)
      | (apply kx; iterate 2 exact rfl)
      | (apply kc; iterate 2 exact rfl)
      | (apply kb; iterate 2 exact rfl)
      | (apply kg; iterate 2 exact rfl)
      | (apply kG; iterate 3 exact rfl)
      | (apply kB; (iterate 2 exact rfl); intro _)
      | (apply kA; exact rfl; intro _)
      | (apply kL; (iterate 3 exact rfl); (· repeat (first | exact BS.nil _ | (apply BS.int; exact rfl) | (apply BS.ptr; exact rfl) | (apply BS.slice; exact rfl) | (apply BS.agg; iterate 2 exact rfl))); intro _)
      | (apply kT; (iterate 2 exact rfl); (· repeat (first | exact sH _ _ _ | apply sT)); iterate 2 exact rfl)
      | (apply kS; (iterate 2 exact rfl); (· repeat (first | exact sH _ _ _ | apply sT)); exact rfl)
      | (apply kh; (iterate 2 exact rfl); (first | decide | omega); exact rfl)
      | (apply kl; (iterate 2 exact rfl); (first | decide | omega); exact rfl)
      )
    | ((first | (apply kR; (· exact rfl); (· exact rfl)) | (apply kQ; (· exact rfl))); all_goals (intro hc; try simp only [decide_eq_true_eq, decide_eq_false_iff_not, Bool.not_eq_true', Bool.not_eq_false', Bool.not_eq_true, Bool.not_eq_false, Bool.not_true, Bool.not_false, Int.not_lt, Int.not_le, List.cons.injEq, and_true, beq_iff_eq, beq_eq_false_iff_ne] at hc; try (exfalso; first | contradiction | omega)))
    )
  · (apply ret2c; (· exact rfl); (· exact inferInstance); (· exact rfl); (· (repeat (first | exact List.Mem.head _ | apply List.Mem.tail))); (· exact rfl); intro w' hS)
    have e : passB g x = false := by simp_all [passB]
    unfold passM passS
    simp only [e, Bool.false_eq_true, if_false]
    exact ⟨none, 0, rfl, (front (hS.nilsl 5 1) 6 rfl rfl).pair⟩
  · skip
    all_goals (
      apply DW.quiet [0, 1, 2, 3, 4, 5]
      · decide +kernel
      · first | exact fun _ h => h | exact fun _ h => St.sub h (by repeat (first | exact List.Sublist.refl _ | apply List.Sublist.cons_cons | apply List.Sublist.cons))
      repeat' (
        first
        | (apply yp; iterate 3 exact rfl)
        | (apply QL.ev; exact rfl
           · first
             | (apply Ev.load_own; (· exact rfl); (· repeat (first | exact mH _ _ | apply mT)); exact rfl)
             | (apply Ev.load_agg; (· exact rfl); (· repeat (first | exact mH _ _ | apply mT)); exact rfl)
             | (apply Ev.load_rdq; (· exact rfl); (· repeat (first | exact mH _ _ | apply mT)); iterate 2 exact rfl)
             | (apply Ev.load_ardq; (· exact rfl); (· repeat (first | exact mH _ _ | apply mT)); exact rfl)
             | (apply Ev.fieldAddr; exact rfl)
             | (apply Ev.len; exact rfl)
             | (apply EqOf.eq; exact rfl)
             | (apply EqOf.ne; exact rfl)
             | (apply Ev.conv; exact rfl)
             | (apply Ev.buildN; exact rfl)
             | (apply Ev.shr; (iterate 2 exact rfl); first | decide | omega)
             | (apply Ev.shl; (iterate 2 exact rfl); first | decide | omega)
           · exact rfl)
        | (apply yq; iterate 5 exact rfl)
        | (apply QL.evg; iterate 3 exact rfl
           · first
             | (apply Ev.load_own; (· exact rfl); (· repeat (first | exact mH _ _ | apply mT)); exact rfl)
             | (apply Ev.load_agg; (· exact rfl); (· repeat (first | exact mH _ _ | apply mT)); exact rfl)
             | (apply Ev.load_rdq; (· exact rfl); (· repeat (first | exact mH _ _ | apply mT)); iterate 2 exact rfl)
             | (apply Ev.load_ardq; (· exact rfl); (· repeat (first | exact mH _ _ | apply mT)); exact rfl)
             | (apply Ev.fieldAddr; exact rfl)
             | (apply Ev.len; exact rfl)
             | (apply EqOf.eq; exact rfl)
             | (apply EqOf.ne; exact rfl)
             | (apply Ev.conv; exact rfl)
             | (apply Ev.buildN; exact rfl)
             | (apply Ev.shr; (iterate 2 exact rfl); first | decide | omega)
             | (apply Ev.shl; (iterate 2 exact rfl); first | decide | omega)
           · exact rfl)
        | (apply yn; iterate 4 exact rfl)
        | ((apply QL.split; (· exact rfl); (· exact rfl); (· exact rfl)); all_goals (intro hc; try simp only [decide_eq_true_eq, decide_eq_false_iff_not, Bool.not_eq_true', Bool.not_eq_false', Bool.not_eq_true, Bool.not_eq_false, Bool.not_true, Bool.not_false, Int.not_lt, Int.not_le, List.cons.injEq, and_true, beq_iff_eq, beq_eq_false_iff_ne] at hc; try (exfalso; first | contradiction | omega)))
        | apply QL.nil
        )
      all_goals (show DW _ _ _ _ _ _ _ _))
    all_goals (
      apply DW.loud 6
      · exact rfl
      · decide +kernel
      repeat' (
        first
        | (apply kg; iterate 2 exact rfl)
        | (apply kG; iterate 3 exact rfl)
        | apply kM
        | (
          first
          | (apply kp; iterate 2 exact rfl)
          | (apply ko; (· exact rfl); (· repeat (first | exact mH _ _ | apply mT)); iterate 2 exact rfl)
          | (apply ka; (· exact rfl); (· repeat (first | exact mH _ _ | apply mT)); iterate 2 exact rfl)
          | (apply kL; (iterate 3 exact rfl); (· repeat (first | exact BS.nil _ | (apply BS.int; exact rfl) | (apply BS.ptr; exact rfl) | (apply BS.slice; exact rfl) | (apply BS.agg; iterate 2 exact rfl))); intro _)
          | (apply kT; (iterate 2 exact rfl); (· repeat (first | exact sH _ _ _ | apply sT)); iterate 2 exact rfl)
          | (apply kS; (iterate 2 exact rfl); (· repeat (first | exact sH _ _ _ | apply sT)); exact rfl)
          | (apply kB; (iterate 2 exact rfl); intro _)
          | (apply kA; exact rfl; intro _)
          )
        )
      all_goals (refine At.stage_same (fun _ h => St.sub h (by repeat (first | exact List.Sublist.refl _ | apply List.Sublist.cons_cons | apply List.Sublist.cons))) ?_))
    all_goals (
      apply DW.quiet [7, 8]
      · decide +kernel
      · first | exact fun _ h => h | exact fun _ h => St.sub h (by repeat (first | exact List.Sublist.refl _ | apply List.Sublist.cons_cons | apply List.Sublist.cons))
      repeat' (
        first
        | (apply yp; iterate 3 exact rfl)
        | (apply QL.ev; exact rfl
           · first
             | (apply Ev.load_own; (· exact rfl); (· repeat (first | exact mH _ _ | apply mT)); exact rfl)
             | (apply Ev.load_agg; (· exact rfl); (· repeat (first | exact mH _ _ | apply mT)); exact rfl)
             | (apply Ev.load_rdq; (· exact rfl); (· repeat (first | exact mH _ _ | apply mT)); iterate 2 exact rfl)
             | (apply Ev.load_ardq; (· exact rfl); (· repeat (first | exact mH _ _ | apply mT)); exact rfl)
             | (apply Ev.fieldAddr; exact rfl)
             | (apply Ev.len; exact rfl)
             | (apply EqOf.eq; exact rfl)
             | (apply EqOf.ne; exact rfl)
             | (apply Ev.conv; exact rfl)
             | (apply Ev.buildN; exact rfl)
             | (apply Ev.shr; (iterate 2 exact rfl); first | decide | omega)
             | (apply Ev.shl; (iterate 2 exact rfl); first | decide | omega)
           · exact rfl)
        | (apply yq; iterate 5 exact rfl)
        | (apply QL.evg; iterate 3 exact rfl
           · first
             | (apply Ev.load_own; (· exact rfl); (· repeat (first | exact mH _ _ | apply mT)); exact rfl)
             | (apply Ev.load_agg; (· exact rfl); (· repeat (first | exact mH _ _ | apply mT)); exact rfl)
             | (apply Ev.load_rdq; (· exact rfl); (· repeat (first | exact mH _ _ | apply mT)); iterate 2 exact rfl)
             | (apply Ev.load_ardq; (· exact rfl); (· repeat (first | exact mH _ _ | apply mT)); exact rfl)
             | (apply Ev.fieldAddr; exact rfl)
             | (apply Ev.len; exact rfl)
             | (apply EqOf.eq; exact rfl)
             | (apply EqOf.ne; exact rfl)
             | (apply Ev.conv; exact rfl)
             | (apply Ev.buildN; exact rfl)
             | (apply Ev.shr; (iterate 2 exact rfl); first | decide | omega)
             | (apply Ev.shl; (iterate 2 exact rfl); first | decide | omega)
           · exact rfl)
        | (apply yn; iterate 4 exact rfl)
        | ((apply QL.split; (· exact rfl); (· exact rfl); (· exact rfl)); all_goals (intro hc; try simp only [decide_eq_true_eq, decide_eq_false_iff_not, Bool.not_eq_true', Bool.not_eq_false', Bool.not_eq_true, Bool.not_eq_false, Bool.not_true, Bool.not_false, Int.not_lt, Int.not_le, List.cons.injEq, and_true, beq_iff_eq, beq_eq_false_iff_ne] at hc; try (exfalso; first | contradiction | omega)))
        | apply QL.nil
        )
      all_goals (show DW _ _ _ _ _ _ _ _))
    all_goals (
      apply DW.loud 9
      · exact rfl
      · decide +kernel
      repeat' (
        first
        | (apply kg; iterate 2 exact rfl)
        | (apply kG; iterate 3 exact rfl)
        | apply kM
        | (
          first
          | (apply kp; iterate 2 exact rfl)
          | (apply ko; (· exact rfl); (· repeat (first | exact mH _ _ | apply mT)); iterate 2 exact rfl)
          | (apply ka; (· exact rfl); (· repeat (first | exact mH _ _ | apply mT)); iterate 2 exact rfl)
          | (apply kL; (iterate 3 exact rfl); (· repeat (first | exact BS.nil _ | (apply BS.int; exact rfl) | (apply BS.ptr; exact rfl) | (apply BS.slice; exact rfl) | (apply BS.agg; iterate 2 exact rfl))); intro _)
          | (apply kT; (iterate 2 exact rfl); (· repeat (first | exact sH _ _ _ | apply sT)); iterate 2 exact rfl)
          | (apply kS; (iterate 2 exact rfl); (· repeat (first | exact sH _ _ _ | apply sT)); exact rfl)
          | (apply kB; (iterate 2 exact rfl); intro _)
          | (apply kA; exact rfl; intro _)
          )
        )
      all_goals (refine At.stage_same (fun _ h => St.sub h (by repeat (first | exact List.Sublist.refl _ | apply List.Sublist.cons_cons | apply List.Sublist.cons))) ?_))
    all_goals (first | (apply DW.done_thn; (· decide +kernel)) | (apply DW.done; (· decide +kernel)))
    repeat' (
      first
      | (
        first
        | (apply kp; iterate 2 exact rfl)
        | apply ja | apply jb | apply jg | apply jj | (apply je; exact rfl) | (apply jf; exact rfl) | apply jd | apply jh | apply ji | (apply jc; kernel_rfl) | apply jk | apply jl | apply jm | apply jn | apply jo | (apply jp; exact rfl) | apply jq | apply jr | apply js | apply jt | apply ju | apply jv | apply jw | apply kN | apply kM
        | (apply kf; iterate 2 exact rfl)
        | (apply ko; (· exact rfl); (· repeat (first | exact mH _ _ | apply mT)); iterate 2 exact rfl)
        | (apply ka; (· exact rfl); (· repeat (first | exact mH _ _ | apply mT)); iterate 2 exact rfl)
        | (apply kr; (· exact rfl); (· repeat (first | exact mH _ _ | apply mT)); iterate 3 exact rfl)
        | (apply ks; (· exact rfl); (· repeat (first | exact mH _ _ | apply mT)); iterate 2 exact rfl)
        | (apply kn; iterate 2 exact rfl)
        | (apply ke; iterate 2 exact rfl)
        | (apply kx; iterate 2 exact rfl)
        | (apply kc; iterate 2 exact rfl)
        | (apply kb; iterate 2 exact rfl)
        | (apply kg; iterate 2 exact rfl)
        | (apply kG; iterate 3 exact rfl)
        | (apply kB; (iterate 2 exact rfl); intro _)
        | (apply kA; exact rfl; intro _)
        | (apply kL; (iterate 3 exact rfl); (· repeat (first | exact BS.nil _ | (apply BS.int; exact rfl) | (apply BS.ptr; exact rfl) | (apply BS.slice; exact rfl) | (apply BS.agg; iterate 2 exact rfl))); intro _)
        | (apply kT; (iterate 2 exact rfl); (· repeat (first | exact sH _ _ _ | apply sT)); iterate 2 exact rfl)
        | (apply kS; (iterate 2 exact rfl); (· repeat (first | exact sH _ _ _ | apply sT)); exact rfl)
        | (apply kh; (iterate 2 exact rfl); (first | decide | omega); exact rfl)
        | (apply kl; (iterate 2 exact rfl); (first | decide | omega); exact rfl)
        )
      | ((first | (apply kR; (· exact rfl); (· exact rfl)) | (apply kQ; (· exact rfl))); all_goals (intro hc; try simp only [decide_eq_true_eq, decide_eq_false_iff_not, Bool.not_eq_true', Bool.not_eq_false', Bool.not_eq_true, Bool.not_eq_false, Bool.not_true, Bool.not_false, Int.not_lt, Int.not_le, List.cons.injEq, and_true, beq_iff_eq, beq_eq_false_iff_ne] at hc; try (exfalso; first | contradiction | omega)))
      )
    (apply ret2c; (· exact rfl); (· exact inferInstance); (· exact rfl); (· (repeat (first | exact List.Mem.head _ | apply List.Mem.tail))); (· exact rfl); intro w' hS)
    have e : passB g x = true := by simp_all [passB]
    unfold passM passS
    simp only [e, if_true]
    exact ⟨a1, c1, rfl, (front (front hS 1 rfl rfl) 5 rfl rfl).pair⟩
end Go.Proofs.Ytphcnaafhcfakaa
