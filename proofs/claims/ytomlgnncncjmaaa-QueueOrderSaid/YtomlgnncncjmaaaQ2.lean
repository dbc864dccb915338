/-
  Queues of the program: put in, taken out.
-/
import Derived.Test.YtomlgnncncjmaaaQ1
-- all by hand
namespace Go.Proofs.Ytomlgnncncjmaaa
open Go.Hb
attribute [local irreducible] LR CW At Ev thn blk finK noG again CallsTo DW QL dnext TW DP
set_option linter.unusedSimpArgs false
set_option linter.unusedVariables false
set_option maxRecDepth 100000

theorem qB_in {b first many : Nat} {slots : List MsgA} {w : World} (h : w.heap[b]? = some (.cells (qcells first many slots).toArray 82 (0, 0))) : St w (qB b first many slots).foot [qB b first many slots] w :=
  St.one (a := qB b first many slots) h (fun k hk => by have hk : k = b := hk; subst hk; exact (Array.getElem?_eq_some_iff.1 h).1) (Asrt.dep_own _ _)
theorem c44e (b first : Nat) (slots : List MsgA) (w : World) (h : Rd w (some ⟨b, 0, none⟩) (qcells first 0 slots)) : CallsTo Try.prog 44 [.pointer (some ⟨b, 0, none⟩)] w fun v w' => v = .tuple [zeroMsg.val none 0, .int .i64 8].toArray ∧ Grew w w' := by
  refine go_in (n := 51) (St.rd1 h) Try.func44 rfl rfl ?_
  repeat' (
    first
    | (
      first
      | (apply kp; iterate 2 exact rfl)
      | apply ja | apply jb | apply jg | apply jj | (apply je; exact rfl) | (apply jf; exact rfl) | apply jd | apply jh | apply ji | (apply jc; kernel_rfl) | apply jk | apply jl | apply jm | apply jn | apply jo | (apply jp; exact rfl) | apply jq | apply jr | apply js | apply jt | apply ju | apply jv | apply jw | apply kN | apply kM
      | (apply kf; iterate 2 exact rfl)
      | (apply ko; (· exact rfl); (· repeat (first | exact mH _ _ | apply mT)); iterate 2 exact rfl)
      | (apply ka; (· exact rfl); (· repeat (first | exact mH _ _ | apply mT)); iterate 2 exact rfl)
      | (apply kr; (· exact rfl); (· repeat (first | exact mH _ _ | apply mT)); iterate 3 exact rfl)
      | (apply ks; (· exact rfl); (· repeat (first | exact mH _ _ | apply mT)); iterate 2 exact rfl)
      | (apply kn; iterate 2 exact rfl)
      | (apply ke; iterate 2 exact rfl)
      | (apply kx; iterate 2 exact rfl)
      | (apply kc; iterate 2 exact rfl)
      | (apply kb; iterate 2 exact rfl)
      | (apply kg; iterate 2 exact rfl)
      | (apply kG; iterate 3 exact rfl)
      | (apply kB; (iterate 2 exact rfl); intro _)
      | (apply kA; exact rfl; intro _)
      | (apply kL; (iterate 3 exact rfl); (· repeat (first | exact BS.nil _ | (apply BS.int; exact rfl) | (apply BS.ptr; exact rfl) | (apply BS.slice; exact rfl) | (apply BS.agg; iterate 2 exact rfl))); intro _)
      | (apply kT; (iterate 2 exact rfl); (· repeat (first | exact sH _ _ _ | apply sT)); iterate 2 exact rfl)
      | (apply kS; (iterate 2 exact rfl); (· repeat (first | exact sH _ _ _ | apply sT)); exact rfl)
      | (apply kh; (iterate 2 exact rfl); (first | decide | omega); exact rfl)
      | (apply kl; (iterate 2 exact rfl); (first | decide | omega); exact rfl)
      )
    | (apply kq; (· exact rfl); (· intro w1 h1; exact CallsTo.q (c85 b first 0 slots w1 (h1.rd_of (by (repeat (first | exact mH _ _ | apply mT))))) h1))
    | ((first | (apply kR; (· exact rfl); (· exact rfl)) | (apply kQ; (· exact rfl))); all_goals (intro hc; try simp only [decide_eq_true_eq, decide_eq_false_iff_not, Bool.not_eq_true', Bool.not_eq_false', Bool.not_eq_true, Bool.not_eq_false, Bool.not_true, Bool.not_false, Int.not_lt, Int.not_le, List.cons.injEq, and_true, beq_iff_eq, beq_eq_false_iff_ne] at hc; try (exfalso; first | contradiction | omega)))
    )
  (apply ret2c; (· exact rfl); (· exact inferInstance); (· exact rfl); (· (repeat (first | exact List.Mem.head _ | apply List.Mem.tail))); (· exact rfl); intro w' hS)
  exact ⟨rfl, hS.toKeep⟩
theorem q_agg {b first many : Nat} {slots : List MsgA} {w : World} (h : w.heap[b]? = some (.cells (qcells first many slots).toArray 82 (0, 0))) {k : Nat} (hk : k < slots.length) {q : Nat} (hq : q = 3 + k * 13) : ∀ j v, (slots[k].row)[j]? = some v → w.cell? ((⟨b, q, none⟩ : Addr).add j) = some v := by
  intro j v hj
  subst hq
  rw [addr_add, cell_own h]
  simpa using qcells_row hk hj
theorem tmod32 (n : Nat) : ((n : Int).tmod 32).toNat = n % 32 ∧ 0 ≤ (n : Int).tmod 32 ∧ (n : Int).tmod 32 < 32 ∧ (n : Int).tmod 32 = ((n % 32 : Nat) : Int) := by
  have h := Int.tmod_eq_emod_of_nonneg (a := (n : Int)) (b := 32) (by omega)
  rw [h]
  omega
theorem put_slot {b first many k : Nat} {slots : List MsgA} (x : MsgA) (hk : k < slots.length) (h32 : slots.length = 32) {q : Nat} (hq : q = 3 + k * 13) :
    Stores Try.prog 28 ⟨b, q, none⟩ (.agg x.row.toArray) (qB b first many slots) (qB b first many (slots.set k x)) := by
  subst hq
  have st := Stores.own (P := Try.prog) (T := 28) (m := 13) (b := b) (o := 3 + k * 13) (v := .agg x.row.toArray) (cs := qcells first many slots) (vs := x.row) (E := 82) inferInstance rfl (by simp [MsgA.row, Msg.cells, Value.oneCell']) rfl (by rw [qcells_len _ _ _ h32]; show 3 + k * 13 + 13 ≤ 419; omega)
  rwa [splice_q _ _ _ _ _ hk] at st
theorem put_many {b first many many' : Nat} {slots : List MsgA} : Stores Try.prog 3 ⟨b, 2, none⟩ (.int .i64 (many' : Int)) (qB b first many slots) (qB b first many' slots) :=
  Stores.own (P := Try.prog) (T := 3) (m := 1) (b := b) (o := 2) (v := .int .i64 (many' : Int)) (cs := qcells first many slots) (vs := [.int .i64 (many' : Int)]) (E := 82) inferInstance rfl rfl rfl (by simp [qcells])
theorem put_first {b first first' many : Nat} {slots : List MsgA} : Stores Try.prog 3 ⟨b, 1, none⟩ (.int .i64 (first' : Int)) (qB b first many slots) (qB b first' many slots) :=
  Stores.own (P := Try.prog) (T := 3) (m := 1) (b := b) (o := 1) (v := .int .i64 (first' : Int)) (cs := qcells first many slots) (vs := [.int .i64 (first' : Int)]) (E := 82) inferInstance rfl rfl rfl (by simp [qcells])
set_option maxHeartbeats 1000000 in
theorem c44 (b first many : Nat) (slots : List MsgA) (w : World) (h : w.heap[b]? = some (.cells (qcells first many slots).toArray 82 (0, 0))) (h32 : slots.length = 32) (hf : first < 32) (hm : 0 < many) (hm2 : many ≤ 32) (x : MsgA) (hx : slots[first]? = some x) :
    CallsTo Try.prog 44 [.pointer (some ⟨b, 0, none⟩)] w fun v w' => v = .tuple [x.m.val x.a x.c, .int .i64 0].toArray ∧ Step (qB b first many slots) (qB b ((first + 1) % 32) (many - 1) (slots.set first zeroA)) w w' := by
  refine go_in (n := 51) (qB_in h) Try.func44 rfl rfl ?_
  obtain ⟨hk, hxe⟩ := List.getElem?_eq_some_iff.1 hx
  have ht := tmod32 (first + 1)
  have e1 : ((first + 1 : Nat) : Int) = (first : Int) + 1 := rfl
  rw [e1] at ht
  repeat' (
    first
    | (apply CW.reg_heldC)
    | (
      first
      | (apply kp; iterate 2 exact rfl)
      | apply ja | apply jb | apply jg | apply jj | (apply je; exact rfl) | (apply jf; exact rfl) | apply jd | apply jh | apply ji | (apply jc; kernel_rfl) | apply jk | apply jl | apply jm | apply jn | apply jo | (apply jp; exact rfl) | apply jq | apply jr | apply js | apply jt | apply ju | apply jv | apply jw | apply kN | apply kM
      | (apply kf; iterate 2 exact rfl)
      | (apply ko; (· exact rfl); (· repeat (first | exact mH _ _ | apply mT)); iterate 2 exact rfl)
      | (apply ka; (· exact rfl); (· repeat (first | exact mH _ _ | apply mT)); iterate 2 exact rfl)
      | (apply kr; (· exact rfl); (· repeat (first | exact mH _ _ | apply mT)); iterate 3 exact rfl)
      | (apply ks; (· exact rfl); (· repeat (first | exact mH _ _ | apply mT)); iterate 2 exact rfl)
      | (apply kn; iterate 2 exact rfl)
      | (apply ke; iterate 2 exact rfl)
      | (apply kx; iterate 2 exact rfl)
      | (apply kc; iterate 2 exact rfl)
      | (apply kb; iterate 2 exact rfl)
      | (apply kg; iterate 2 exact rfl)
      | (apply kG; iterate 3 exact rfl)
      | (apply kB; (iterate 2 exact rfl); intro _)
      | (apply kA; exact rfl; intro _)
      | (apply kL; (iterate 3 exact rfl); (· repeat (first | exact BS.nil _ | (apply BS.int; exact rfl) | (apply BS.ptr; exact rfl) | (apply BS.slice; exact rfl) | (apply BS.agg; iterate 2 exact rfl))); intro _)
      | (apply kT; (iterate 2 exact rfl); (· repeat (first | exact sH _ _ _ | apply sT)); iterate 2 exact rfl)
      | (apply kS; (iterate 2 exact rfl); (· repeat (first | exact sH _ _ _ | apply sT)); exact rfl)
      | (apply kh; (iterate 2 exact rfl); (first | decide | omega); exact rfl)
      | (apply kl; (iterate 2 exact rfl); (first | decide | omega); exact rfl)
      )
    | (apply kq; (· exact rfl); (· intro w1 h1; exact CallsTo.q (c85 b first many slots w1 (h1.rd_of_blk (by (repeat (first | exact mH _ _ | apply mT))))) h1))
    | ((first | (apply kR; (· exact rfl); (· exact rfl)) | (apply kQ; (· exact rfl))); all_goals (intro hc; try simp only [decide_eq_true_eq, decide_eq_false_iff_not, Bool.not_eq_true', Bool.not_eq_false', Bool.not_eq_true, Bool.not_eq_false, Bool.not_true, Bool.not_false, Int.not_lt, Int.not_le, List.cons.injEq, and_true, beq_iff_eq, beq_eq_false_iff_ne] at hc; try (exfalso; first | contradiction | omega)))
    )
  apply DW.quiet [0, 1, 2, 3, 4, 5, 6, 7, 8]
  · decide +kernel
  · exact fun _ h => h
  repeat' (
    first
    | (apply yp; iterate 3 exact rfl)
    | (apply QL.ev; exact rfl
       · first
         | (apply Ev.load_own; (· exact rfl); (· repeat (first | exact mH _ _ | apply mT)); exact rfl)
         | (apply Ev.load_agg; (· exact rfl); (· repeat (first | exact mH _ _ | apply mT)); exact rfl)
         | (apply Ev.load_rdq; (· exact rfl); (· repeat (first | exact mH _ _ | apply mT)); iterate 2 exact rfl)
         | (apply Ev.load_ardq; (· exact rfl); (· repeat (first | exact mH _ _ | apply mT)); exact rfl)
         | (apply Ev.fieldAddr; exact rfl)
         | (apply Ev.len; exact rfl)
         | (apply EqOf.eq; exact rfl)
         | (apply EqOf.ne; exact rfl)
         | (apply Ev.conv; exact rfl)
         | (apply Ev.buildN; exact rfl)
         | (apply Ev.shr; (iterate 2 exact rfl); first | decide | omega)
         | (apply Ev.shl; (iterate 2 exact rfl); first | decide | omega)
       · exact rfl)
    | (apply QL.ev; (· exact rfl); (· first | (apply Ev.indexArr; (· exact rfl); (· exact rfl); (· omega); (· omega)) | (apply Ev.load_agg_at (cs := x.row); (· exact rfl); (· exact rfl); (· intro w' hw'; rw [← hxe]; exact q_agg (hw'.own_at (b := b) (by (repeat (first | exact mH _ _ | apply mT)))) hk (by simp)))); (· exact rfl))
    | (apply yq; iterate 5 exact rfl)
    | (apply QL.evg; iterate 3 exact rfl
       · first
         | (apply Ev.load_own; (· exact rfl); (· repeat (first | exact mH _ _ | apply mT)); exact rfl)
         | (apply Ev.load_agg; (· exact rfl); (· repeat (first | exact mH _ _ | apply mT)); exact rfl)
         | (apply Ev.load_rdq; (· exact rfl); (· repeat (first | exact mH _ _ | apply mT)); iterate 2 exact rfl)
         | (apply Ev.load_ardq; (· exact rfl); (· repeat (first | exact mH _ _ | apply mT)); exact rfl)
         | (apply Ev.fieldAddr; exact rfl)
         | (apply Ev.len; exact rfl)
         | (apply EqOf.eq; exact rfl)
         | (apply EqOf.ne; exact rfl)
         | (apply Ev.conv; exact rfl)
         | (apply Ev.buildN; exact rfl)
         | (apply Ev.shr; (iterate 2 exact rfl); first | decide | omega)
         | (apply Ev.shl; (iterate 2 exact rfl); first | decide | omega)
       · exact rfl)
    | (apply yn; iterate 4 exact rfl)
    | ((apply QL.split; (· exact rfl); (· exact rfl); (· exact rfl)); all_goals (intro hc; try simp only [decide_eq_true_eq, decide_eq_false_iff_not, Bool.not_eq_true', Bool.not_eq_false', Bool.not_eq_true, Bool.not_eq_false, Bool.not_true, Bool.not_false, Int.not_lt, Int.not_le, List.cons.injEq, and_true, beq_iff_eq, beq_eq_false_iff_ne] at hc; try (exfalso; first | contradiction | omega)))
    | apply QL.nil
    )
  all_goals (show DW _ _ _ _ _ _ _ _)
  apply DW.loud 9
  · exact rfl
  · decide +kernel
  repeat' (
    first
    | (apply kg; iterate 2 exact rfl)
    | (apply kG; iterate 3 exact rfl)
    | apply kM
    | (
      first
      | (apply kp; iterate 2 exact rfl)
      | (apply ko; (· exact rfl); (· repeat (first | exact mH _ _ | apply mT)); iterate 2 exact rfl)
      | (apply ka; (· exact rfl); (· repeat (first | exact mH _ _ | apply mT)); iterate 2 exact rfl)
      | (apply kL; (iterate 3 exact rfl); (· repeat (first | exact BS.nil _ | (apply BS.int; exact rfl) | (apply BS.ptr; exact rfl) | (apply BS.slice; exact rfl) | (apply BS.agg; iterate 2 exact rfl))); intro _)
      | (apply kT; (iterate 2 exact rfl); (· repeat (first | exact sH _ _ _ | apply sT)); iterate 2 exact rfl)
      | (apply kS; (iterate 2 exact rfl); (· repeat (first | exact sH _ _ _ | apply sT)); exact rfl)
      | (apply kB; (iterate 2 exact rfl); intro _)
      | (apply kA; exact rfl; intro _)
      )
    )
  refine At.stage_same (fun _ h => St.sub h (by repeat (first | exact List.Sublist.refl _ | apply List.Sublist.cons_cons | apply List.Sublist.cons))) ?_
  apply DW.loud 10
  · exact rfl
  · decide +kernel
  repeat' (
    first
    | (apply kg; iterate 2 exact rfl)
    | (apply kG; iterate 3 exact rfl)
    | apply kM
    | (
      first
      | (apply kp; iterate 2 exact rfl)
      | (apply ko; (· exact rfl); (· repeat (first | exact mH _ _ | apply mT)); iterate 2 exact rfl)
      | (apply ka; (· exact rfl); (· repeat (first | exact mH _ _ | apply mT)); iterate 2 exact rfl)
      | (apply kL; (iterate 3 exact rfl); (· repeat (first | exact BS.nil _ | (apply BS.int; exact rfl) | (apply BS.ptr; exact rfl) | (apply BS.slice; exact rfl) | (apply BS.agg; iterate 2 exact rfl))); intro _)
      | (apply kT; (iterate 2 exact rfl); (· repeat (first | exact sH _ _ _ | apply sT)); iterate 2 exact rfl)
      | (apply kS; (iterate 2 exact rfl); (· repeat (first | exact sH _ _ _ | apply sT)); exact rfl)
      | (apply kB; (iterate 2 exact rfl); intro _)
      | (apply kA; exact rfl; intro _)
      )
    )
  refine At.stage_same (fun _ h => St.sub h (by repeat (first | exact List.Sublist.refl _ | apply List.Sublist.cons_cons | apply List.Sublist.cons))) ?_
  apply DW.done_thn
  · decide +kernel
  repeat' (
    first
    | (apply CW.reg_tail 9; decide +kernel)
    | (
      first
      | (apply kp; iterate 2 exact rfl)
      | apply ja | apply jb | apply jg | apply jj | (apply je; exact rfl) | (apply jf; exact rfl) | apply jd | apply jh | apply ji | (apply jc; kernel_rfl) | apply jk | apply jl | apply jm | apply jn | apply jo | (apply jp; exact rfl) | apply jq | apply jr | apply js | apply jt | apply ju | apply jv | apply jw | apply kN | apply kM
      | (apply kf; iterate 2 exact rfl)
      | (apply ko; (· exact rfl); (· repeat (first | exact mH _ _ | apply mT)); iterate 2 exact rfl)
      | (apply ka; (· exact rfl); (· repeat (first | exact mH _ _ | apply mT)); iterate 2 exact rfl)
      | (apply kr; (· exact rfl); (· repeat (first | exact mH _ _ | apply mT)); iterate 3 exact rfl)
      | (apply ks; (· exact rfl); (· repeat (first | exact mH _ _ | apply mT)); iterate 2 exact rfl)
      | (apply kn; iterate 2 exact rfl)
      | (apply ke; iterate 2 exact rfl)
      | (apply kx; iterate 2 exact rfl)
      | (apply kc; iterate 2 exact rfl)
      | (apply kb; iterate 2 exact rfl)
      | (apply kg; iterate 2 exact rfl)
      | (apply kG; iterate 3 exact rfl)
      | (apply kB; (iterate 2 exact rfl); intro _)
      | (apply kA; exact rfl; intro _)
      | (apply kL; (iterate 3 exact rfl); (· repeat (first | exact BS.nil _ | (apply BS.int; exact rfl) | (apply BS.ptr; exact rfl) | (apply BS.slice; exact rfl) | (apply BS.agg; iterate 2 exact rfl))); intro _)
      | (apply kT; (iterate 2 exact rfl); (· repeat (first | exact sH _ _ _ | apply sT)); iterate 2 exact rfl)
      | (apply kS; (iterate 2 exact rfl); (· repeat (first | exact sH _ _ _ | apply sT)); exact rfl)
      | (apply kh; (iterate 2 exact rfl); (first | decide | omega); exact rfl)
      | (apply kl; (iterate 2 exact rfl); (first | decide | omega); exact rfl)
      )
    | ((first | (apply kR; (· exact rfl); (· exact rfl)) | (apply kQ; (· exact rfl))); all_goals (intro hc; try simp only [decide_eq_true_eq, decide_eq_false_iff_not, Bool.not_eq_true', Bool.not_eq_false', Bool.not_eq_true, Bool.not_eq_false, Bool.not_true, Bool.not_false, Int.not_lt, Int.not_le, List.cons.injEq, and_true, beq_iff_eq, beq_eq_false_iff_ne] at hc; try (exfalso; first | contradiction | omega)))
    )
  repeat' (
    first
    | (apply TW.ev; (· exact evV_sound rfl); exact rfl)
    | (apply TW.ev
       · first
         | (apply Ev.load_own; (· exact rfl); (· repeat (first | exact mH _ _ | apply mT)); exact rfl)
         | (apply Ev.load_agg; (· exact rfl); (· repeat (first | exact mH _ _ | apply mT)); exact rfl)
         | (apply Ev.load_rdq; (· exact rfl); (· repeat (first | exact mH _ _ | apply mT)); iterate 2 exact rfl)
         | (apply Ev.load_ardq; (· exact rfl); (· repeat (first | exact mH _ _ | apply mT)); exact rfl)
         | (apply Ev.fieldAddr; exact rfl)
         | (apply Ev.len; exact rfl)
         | (apply EqOf.eq; exact rfl)
         | (apply EqOf.ne; exact rfl)
         | (apply Ev.conv; exact rfl)
         | (apply Ev.buildN; exact rfl)
         | (apply Ev.shr; (iterate 2 exact rfl); first | decide | omega)
         | (apply Ev.shl; (iterate 2 exact rfl); first | decide | omega)
       · exact rfl)
    | (apply TW.ev; (· apply Ev.indexArr; (· exact rfl); (· exact rfl); (· omega); (· omega)); (· exact rfl))
    | (apply TW.yes; iterate 2 exact rfl)
    | (apply TW.no; iterate 3 exact rfl)
    | apply TW.nil
    )
  refine LR.store_obj (v := .agg zeroA.row.toArray) (z' := qB b first many (slots.set first zeroA)) rfl rfl (by (repeat (first | exact sH _ _ _ | apply sT))) rfl (put_slot zeroA hk h32 (by simp)) (Asrt.dep_own _ _) ?_
  repeat' (
    first
    | (
      first
      | (apply kp; iterate 2 exact rfl)
      | apply ja | apply jb | apply jg | apply jj | (apply je; exact rfl) | (apply jf; exact rfl) | apply jd | apply jh | apply ji | (apply jc; kernel_rfl) | apply jk | apply jl | apply jm | apply jn | apply jo | (apply jp; exact rfl) | apply jq | apply jr | apply js | apply jt | apply ju | apply jv | apply jw | apply kN | apply kM
      | (apply kf; iterate 2 exact rfl)
      | (apply ko; (· exact rfl); (· repeat (first | exact mH _ _ | apply mT)); iterate 2 exact rfl)
      | (apply ka; (· exact rfl); (· repeat (first | exact mH _ _ | apply mT)); iterate 2 exact rfl)
      | (apply kr; (· exact rfl); (· repeat (first | exact mH _ _ | apply mT)); iterate 3 exact rfl)
      | (apply ks; (· exact rfl); (· repeat (first | exact mH _ _ | apply mT)); iterate 2 exact rfl)
      | (apply kn; iterate 2 exact rfl)
      | (apply ke; iterate 2 exact rfl)
      | (apply kx; iterate 2 exact rfl)
      | (apply kc; iterate 2 exact rfl)
      | (apply kb; iterate 2 exact rfl)
      | (apply kg; iterate 2 exact rfl)
      | (apply kG; iterate 3 exact rfl)
      | (apply kB; (iterate 2 exact rfl); intro _)
      | (apply kA; exact rfl; intro _)
      | (apply kL; (iterate 3 exact rfl); (· repeat (first | exact BS.nil _ | (apply BS.int; exact rfl) | (apply BS.ptr; exact rfl) | (apply BS.slice; exact rfl) | (apply BS.agg; iterate 2 exact rfl))); intro _)
      | (apply kT; (iterate 2 exact rfl); (· repeat (first | exact sH _ _ _ | apply sT)); iterate 2 exact rfl)
      | (apply kS; (iterate 2 exact rfl); (· repeat (first | exact sH _ _ _ | apply sT)); exact rfl)
      | (apply kh; (iterate 2 exact rfl); (first | decide | omega); exact rfl)
      | (apply kl; (iterate 2 exact rfl); (first | decide | omega); exact rfl)
      )
    | (apply LR.ev; (· apply Ev.add; (· exact rfl); (· exact rfl); (· first | omega | (dsimp only; omega)); (· first | omega | (dsimp only; omega))); (· exact rfl))
    | (apply LR.ev; (· apply Ev.rem; (· exact rfl); (· exact rfl); (· first | decide | omega)); (· exact rfl))
    | (apply LR.ev; (· apply Ev.sub; (· exact rfl); (· exact rfl); (· first | omega | (dsimp only; omega)); (· first | omega | (dsimp only; omega))); (· exact rfl))
    | ((first | (apply kR; (· exact rfl); (· exact rfl)) | (apply kQ; (· exact rfl))); all_goals (intro hc; try simp only [decide_eq_true_eq, decide_eq_false_iff_not, Bool.not_eq_true', Bool.not_eq_false', Bool.not_eq_true, Bool.not_eq_false, Bool.not_true, Bool.not_false, Int.not_lt, Int.not_le, List.cons.injEq, and_true, beq_iff_eq, beq_eq_false_iff_ne] at hc; try (exfalso; first | contradiction | omega)))
    )
  (apply ret2c; (· exact rfl); (· exact inferInstance); (· exact rfl); (· (repeat (first | exact List.Mem.head _ | apply List.Mem.tail))); (· exact rfl); intro w' hS)
  have e3 : splice (splice (qcells first many (slots.set first zeroA)) 1 [.int .i64 (((first : Int) + 1).tmod 32)]) 2 [.int .i64 ((many : Int) - 1)] = qcells ((first + 1) % 32) (many - 1) (slots.set first zeroA) := by
    rw [ht.2.2.2, show (many : Int) - 1 = ((many - 1 : Nat) : Int) by omega]
    rfl
  exact ⟨rfl, ((front hS 2 rfl rfl).cast (congrArg (fun c : List Value => Asrt.own b (.cells c.toArray 82 (0, 0)) :: _) e3)).step rfl⟩

/-! ### the round -/
theorem QRep.put {f : Nat} {slots L : List MsgA} (h : QRep f slots L) (hlt : L.length < 32) (x : MsgA) : QRep f (slots.set ((f + L.length) % 32) x) (L ++ [x]) := by
  refine ⟨by simp [h.h32], h.hf, by simp; omega, fun i hi => ?_⟩
  simp only [List.length_append, List.length_cons, List.length_nil] at hi
  have hf := h.hf
  have h32 := h.h32
  by_cases he : i = L.length
  · subst he
    rw [List.getElem?_set_self (by rw [h32]; omega)]
    simp
  · have hne : (f + L.length) % 32 ≠ (f + i) % 32 := by omega
    rw [List.getElem?_set_ne hne, h.at_ i (by omega)]
    simp [List.getElem_append_left (show i < L.length by omega)]
theorem QRep.take {f : Nat} {slots L : List MsgA} {x : MsgA} (h : QRep f slots (x :: L)) : QRep ((f + 1) % 32) (slots.set f zeroA) L ∧ slots[f]? = some x := by
  have hf := h.hf
  have hl := h.hL
  simp only [List.length_cons] at hl
  refine ⟨⟨by simp [h.h32], by omega, by omega, fun i hi => ?_⟩, ?_⟩
  · have := h.at_ (i + 1) (by simp; omega)
    have hne : f ≠ ((f + 1) % 32 + i) % 32 := by omega
    rw [List.getElem?_set_ne hne, show ((f + 1) % 32 + i) % 32 = (f + (i + 1)) % 32 by omega, this]
    simp
  · have := h.at_ 0 (by simp)
    rw [show (f + 0) % 32 = f by omega] at this
    simpa using this
theorem QRep.start : QRep 0 (List.replicate 32 zeroA) [] := ⟨by simp, by omega, by simp, fun i hi => by simp at hi⟩
structure MR (w : World) (x : MsgA) : Prop where
  hr : Rd w x.a (bv x.m.body)
  hz : x.a = none → x.c = 0
  hm : x.m.body.length ≤ 140737488355328
  hb : Byt x.m.body
def qputE (n : Nat) (l : List MsgA) : Int := if (l.any fun x => decide (check x.m ≠ 0)) = true then 2 else if 32 - (n : Int) < (l.length : Int) then 7 else 0
def qO (b first : Nat) (slots L : List MsgA) : Asrt := both (qB b first L.length slots) (bunB L)
theorem qO_dep (b first : Nat) (slots L : List MsgA) : (qO b first slots L).dep := both_dep (Asrt.dep_own _ _) (bun_dep MsgA.dep L)
set_option maxHeartbeats 4000000 in
theorem c41 (b first : Nat) (slots L : List MsgA) (al : Option Addr) (cl : Nat) (l : List MsgA) (w : World) (h : (qO b first slots L).holds w) (hq : QRep first slots L)
    (hr : Rd w al (l.flatMap MsgA.row)) (hd : ∀ k, rdFoot al (l.flatMap MsgA.row) k → ¬ (qO b first slots L).foot k) (hR : ∀ x ∈ l, MR w x) (hRd : ∀ x ∈ l, ∀ k, rdFoot x.a (bv x.m.body) k → ¬ (qO b first slots L).foot k) (hm : l.length ≤ 140737488355328) :
    CallsTo Try.prog 41 [.pointer (some ⟨b, 0, none⟩), .slice al l.length cl] w fun v w' => ∃ slots' L', v = .int .i64 (qputE L.length l) ∧ QRep first slots' L' ∧ L'.map MsgA.m = L.map MsgA.m ++ (if qputE L.length l = 0 then l.map MsgA.m else []) ∧ Step (qO b first slots L) (qO b first slots' L') w w' := by
  have hS0 := St.one h (both_live h) (qO_dep b first slots L)
  have hS1 := (front (hS0.addRd hr hd) 1 rfl rfl).part (Asrt.dep_own _ _) (bun_dep MsgA.dep L)
  have hs0 : Step (qO b first slots L) (qO b first slots L) w w := hS0.step rfl
  have fin : ∀ (slots' L' : List MsgA) (R : List Asrt) (w' : World), St w (qO b first slots L).foot (qB b first L'.length slots' :: bunB L' :: R) w' → Step (qO b first slots L) (qO b first slots' L') w w' := fun slots' L' R w' hS => (hS.join rfl rfl).step rfl
  generalize hF : (qO b first slots L).foot = F at *
  have old : ∀ {L1 : List Asrt} {w1 : World}, St w F L1 w1 → ∀ x ∈ l, Rd w1 x.a (bv x.m.body) := fun h1 x hx => h1.oldRdF (hR x hx).hr (hRd x hx)
  refine go_in (n := 59) (hS1.cast (L' := [qB b first L.length slots, bunB L, rdA al (l.flatMap MsgA.row)]) rfl) Try.func41 rfl rfl ?_
  repeat' (
    first
    | (
      first
      | (apply kp; iterate 2 exact rfl)
      | apply ja | apply jb | apply jg | apply jj | (apply je; exact rfl) | (apply jf; exact rfl) | apply jd | apply jh | apply ji | (apply jc; kernel_rfl) | apply jk | apply jl | apply jm | apply jn | apply jo | (apply jp; exact rfl) | apply jq | apply jr | apply js | apply jt | apply ju | apply jv | apply jw | apply kN | apply kM
      | (apply kf; iterate 2 exact rfl)
      | (apply ko; (· exact rfl); (· repeat (first | exact mH _ _ | apply mT)); iterate 2 exact rfl)
      | (apply ka; (· exact rfl); (· repeat (first | exact mH _ _ | apply mT)); iterate 2 exact rfl)
      | (apply kr; (· exact rfl); (· repeat (first | exact mH _ _ | apply mT)); iterate 3 exact rfl)
      | (apply ks; (· exact rfl); (· repeat (first | exact mH _ _ | apply mT)); iterate 2 exact rfl)
      | (apply kn; iterate 2 exact rfl)
      | (apply ke; iterate 2 exact rfl)
      | (apply kx; iterate 2 exact rfl)
      | (apply kc; iterate 2 exact rfl)
      | (apply kb; iterate 2 exact rfl)
      | (apply kg; iterate 2 exact rfl)
      | (apply kG; iterate 3 exact rfl)
      | (apply kB; (iterate 2 exact rfl); intro _)
      | (apply kA; exact rfl; intro _)
      | (apply kL; (iterate 3 exact rfl); (· repeat (first | exact BS.nil _ | (apply BS.int; exact rfl) | (apply BS.ptr; exact rfl) | (apply BS.slice; exact rfl) | (apply BS.agg; iterate 2 exact rfl))); intro _)
      | (apply kT; (iterate 2 exact rfl); (· repeat (first | exact sH _ _ _ | apply sT)); iterate 2 exact rfl)
      | (apply kS; (iterate 2 exact rfl); (· repeat (first | exact sH _ _ _ | apply sT)); exact rfl)
      | (apply kh; (iterate 2 exact rfl); (first | decide | omega); exact rfl)
      | (apply kl; (iterate 2 exact rfl); (first | decide | omega); exact rfl)
      )
    | (apply kq; (· exact rfl); (· intro w1 h1; exact CallsTo.q (c85 b first L.length slots w1 (h1.rd_of_blk (by (repeat (first | exact mH _ _ | apply mT))))) h1))
    | ((first | (apply kR; (· exact rfl); (· exact rfl)) | (apply kQ; (· exact rfl))); all_goals (intro hc; try simp only [decide_eq_true_eq, decide_eq_false_iff_not, Bool.not_eq_true', Bool.not_eq_false', Bool.not_eq_true, Bool.not_eq_false, Bool.not_true, Bool.not_false, Int.not_lt, Int.not_le, List.cons.injEq, and_true, beq_iff_eq, beq_eq_false_iff_ne] at hc; try (exfalso; first | contradiction | omega)))
    )
  apply CW.loop [4, 6, 13, 14, 15, 16, 17, 18, 19, 20] (fun i : Nat => i ≤ l.length ∧ ∀ x ∈ l.take i, check x.m = 0) (fun i => [(13, Value.int .i64 (i : Int))]) (fun i => St w F [qB b first L.length slots, bunB L, rdA al (l.flatMap MsgA.row)]) (fun i => l.length - i)
  · exact fun w' hw' => ⟨0, ⟨by omega, by simp⟩, ⟨rfl, trivial⟩, hw'⟩
  intro i g ⟨hi, hck⟩
  by_cases hlt : i < l.length
  · obtain ⟨ba, oa, rfl⟩ := hr.form (rows_ne MsgA.row_len (by omega) hlt)
    have hx := hR _ (List.getElem_mem hlt)
    repeat' (
      first
      | (
        first
        | (apply kp; iterate 2 exact rfl)
        | apply ja | apply jb | apply jg | apply jj | (apply je; exact rfl) | (apply jf; exact rfl) | apply jd | apply jh | apply ji | (apply jc; kernel_rfl) | apply jk | apply jl | apply jm | apply jn | apply jo | (apply jp; exact rfl) | apply jq | apply jr | apply js | apply jt | apply ju | apply jv | apply jw | apply kN | apply kM
        | (apply kf; iterate 2 exact rfl)
        | (apply ko; (· exact rfl); (· repeat (first | exact mH _ _ | apply mT)); iterate 2 exact rfl)
        | (apply ka; (· exact rfl); (· repeat (first | exact mH _ _ | apply mT)); iterate 2 exact rfl)
        | (apply kr; (· exact rfl); (· repeat (first | exact mH _ _ | apply mT)); iterate 3 exact rfl)
        | (apply ks; (· exact rfl); (· repeat (first | exact mH _ _ | apply mT)); iterate 2 exact rfl)
        | (apply kn; iterate 2 exact rfl)
        | (apply ke; iterate 2 exact rfl)
        | (apply kx; iterate 2 exact rfl)
        | (apply kc; iterate 2 exact rfl)
        | (apply kb; iterate 2 exact rfl)
        | (apply kg; iterate 2 exact rfl)
        | (apply kG; iterate 3 exact rfl)
        | (apply kB; (iterate 2 exact rfl); intro _)
        | (apply kA; exact rfl; intro _)
        | (apply kL; (iterate 3 exact rfl); (· repeat (first | exact BS.nil _ | (apply BS.int; exact rfl) | (apply BS.ptr; exact rfl) | (apply BS.slice; exact rfl) | (apply BS.agg; iterate 2 exact rfl))); intro _)
        | (apply kT; (iterate 2 exact rfl); (· repeat (first | exact sH _ _ _ | apply sT)); iterate 2 exact rfl)
        | (apply kS; (iterate 2 exact rfl); (· repeat (first | exact sH _ _ _ | apply sT)); exact rfl)
        | (apply kh; (iterate 2 exact rfl); (first | decide | omega); exact rfl)
        | (apply kl; (iterate 2 exact rfl); (first | decide | omega); exact rfl)
        )
      | (apply LR.ev; (· apply Ev.indexAddr; (· exact rfl); (· exact rfl); (· first | omega | (dsimp only; omega)); (· first | omega | (dsimp only; omega))); (· exact rfl))
      | (apply LR.ev; (· apply Ev.load_agg_at (cs := l[i].row); (· exact rfl); (· exact rfl); (· intro w' hw'; exact rd_row MsgA.row_len (hw'.rd_of (by (repeat (first | exact mH _ _ | apply mT)))) hlt (by simp))); (· exact rfl))
      | (apply kq; (· exact rfl); (· intro w1 h1; have hq := CallsTo.q (d17 l[i].m l[i].a l[i].c w1 (old h1 _ (List.getElem_mem hlt)) hx.hz hx.hm hx.hb) h1; show CallsTo Try.prog 17 [l[i].m.val l[i].a l[i].c] w1 _; exact hq))
      | (apply LR.ev; (· apply Ev.add; (· exact rfl); (· exact rfl); (· first | omega | (dsimp only; omega)); (· first | omega | (dsimp only; omega))); (· exact rfl))
      | ((first | (apply kR; (· exact rfl); (· exact rfl)) | (apply kQ; (· exact rfl))); all_goals (intro hc; try simp only [decide_eq_true_eq, decide_eq_false_iff_not, Bool.not_eq_true', Bool.not_eq_false', Bool.not_eq_true, Bool.not_eq_false, Bool.not_true, Bool.not_false, Int.not_lt, Int.not_le, List.cons.injEq, and_true, beq_iff_eq, beq_eq_false_iff_ne] at hc; try (exfalso; first | contradiction | omega)))
      )
    · (apply ret1; (· exact rfl); intro w' hS)
      have e : qputE L.length l = 2 := by
        unfold qputE
        rw [if_pos]
        rw [List.any_eq_true]
        exact ⟨l[i], List.getElem_mem hlt, by simpa using hc⟩
      rw [e]
      exact ⟨slots, L, rfl, hq, by simp, fin slots L _ w' ((front (front hS 2 rfl rfl) 2 rfl rfl))⟩
    · apply At.again (i + 1)
      · refine ⟨by show i + 1 ≤ _; omega, fun x hx2 => ?_⟩
        rw [List.take_succ_eq_append_getElem hlt] at hx2
        rcases List.mem_append.1 hx2 with hx2 | hx2
        · exact hck x hx2
        · have : x = l[i] := by simpa using hx2
          subst this; exact hc
      · (repeat (first | exact Out.refl _ _ | exact Out.mix | (apply Out.upd; (· exact rfl)) | (apply Out.updL; (· exact rfl)) | (apply Out.mixs; (· exact rfl))))
      · exact ⟨rfl, trivial⟩
      · exact fun w' hw' => hw'.sub (by repeat (first | exact List.Sublist.refl _ | apply List.Sublist.cons_cons | apply List.Sublist.cons))
      · omega
  · have hL := hq.hL
    have hany : ¬ (l.any fun x => decide (check x.m ≠ 0)) = true := by
      rw [List.any_eq_true]
      rintro ⟨x, hx1, hx2⟩
      rw [List.take_of_length_le (by omega)] at hck
      exact absurd (hck x hx1) (by simpa using hx2)
    repeat' (
      first
      | (
        first
        | (apply kp; iterate 2 exact rfl)
        | apply ja | apply jb | apply jg | apply jj | (apply je; exact rfl) | (apply jf; exact rfl) | apply jd | apply jh | apply ji | (apply jc; kernel_rfl) | apply jk | apply jl | apply jm | apply jn | apply jo | (apply jp; exact rfl) | apply jq | apply jr | apply js | apply jt | apply ju | apply jv | apply jw | apply kN | apply kM
        | (apply kf; iterate 2 exact rfl)
        | (apply ko; (· exact rfl); (· repeat (first | exact mH _ _ | apply mT)); iterate 2 exact rfl)
        | (apply ka; (· exact rfl); (· repeat (first | exact mH _ _ | apply mT)); iterate 2 exact rfl)
        | (apply kr; (· exact rfl); (· repeat (first | exact mH _ _ | apply mT)); iterate 3 exact rfl)
        | (apply ks; (· exact rfl); (· repeat (first | exact mH _ _ | apply mT)); iterate 2 exact rfl)
        | (apply kn; iterate 2 exact rfl)
        | (apply ke; iterate 2 exact rfl)
        | (apply kx; iterate 2 exact rfl)
        | (apply kc; iterate 2 exact rfl)
        | (apply kb; iterate 2 exact rfl)
        | (apply kg; iterate 2 exact rfl)
        | (apply kG; iterate 3 exact rfl)
        | (apply kB; (iterate 2 exact rfl); intro _)
        | (apply kA; exact rfl; intro _)
        | (apply kL; (iterate 3 exact rfl); (· repeat (first | exact BS.nil _ | (apply BS.int; exact rfl) | (apply BS.ptr; exact rfl) | (apply BS.slice; exact rfl) | (apply BS.agg; iterate 2 exact rfl))); intro _)
        | (apply kT; (iterate 2 exact rfl); (· repeat (first | exact sH _ _ _ | apply sT)); iterate 2 exact rfl)
        | (apply kS; (iterate 2 exact rfl); (· repeat (first | exact sH _ _ _ | apply sT)); exact rfl)
        | (apply kh; (iterate 2 exact rfl); (first | decide | omega); exact rfl)
        | (apply kl; (iterate 2 exact rfl); (first | decide | omega); exact rfl)
        )
      | (apply kq; (· exact rfl); (· intro w1 h1; exact CallsTo.q (c48 b first L.length slots w1 (h1.rd_of_blk (by (repeat (first | exact mH _ _ | apply mT)))) hL) h1))
      | ((first | (apply kR; (· exact rfl); (· exact rfl)) | (apply kQ; (· exact rfl))); all_goals (intro hc; try simp only [decide_eq_true_eq, decide_eq_false_iff_not, Bool.not_eq_true', Bool.not_eq_false', Bool.not_eq_true, Bool.not_eq_false, Bool.not_true, Bool.not_false, Int.not_lt, Int.not_le, List.cons.injEq, and_true, beq_iff_eq, beq_eq_false_iff_ne] at hc; try (exfalso; first | contradiction | omega)))
      )
    · (apply ret1; (· exact rfl); intro w' hS)
      have e : qputE L.length l = 7 := by unfold qputE; rw [if_neg hany, if_pos (by omega)]
      rw [e]
      exact ⟨slots, L, rfl, hq, by simp, fin slots L _ w' hS⟩
    have e : qputE L.length l = 0 := by unfold qputE; rw [if_neg hany, if_neg (by omega)]
    rw [e]
    have hroom : l.length ≤ 32 - L.length := by omega
    apply CW.loop [8, 28, 29, 30, 31, 32, 33, 34, 35, 36, 37, 38, 39, 40, 41, 42, 43, 44, 45, 46, 47, 48, 49, 50, 51, 52, 53, 54, 55, 56, 57, 58] (fun s : Nat × List MsgA × List MsgA => s.1 ≤ l.length ∧ QRep first s.2.1 s.2.2 ∧ s.2.2.map MsgA.m = L.map MsgA.m ++ (l.take s.1).map MsgA.m) (fun s => [(28, Value.int .i64 (s.1 : Int))])
      (fun s => St w F [qB b first s.2.2.length s.2.1, bunB s.2.2, rdA al (l.flatMap MsgA.row)]) (fun s => l.length - s.1)
    · exact fun w' hw' => ⟨(0, slots, L), ⟨by simp, hq, by simp⟩, ⟨rfl, trivial⟩, hw'⟩
    rintro ⟨i2, slots', L'⟩ g2 ⟨hi2, hq', hL'⟩
    simp only at hi2 hq' hL' ⊢
    have hlen : L'.length = L.length + i2 := by have := congrArg List.length hL'; simp at this; omega
    by_cases hlt2 : i2 < l.length
    · obtain ⟨ba, oa, rfl⟩ := hr.form (rows_ne MsgA.row_len (by omega) hlt2)
      have hx := hR _ (List.getElem_mem hlt2)
      have h32 := hq'.h32
      have ht := tmod32 (first + L'.length)
      rw [show ((first + L'.length : Nat) : Int) = (first : Int) + (L'.length : Int) from rfl] at ht
      have hf := hq'.hf
      repeat' (
        first
        | (
          first
          | (apply kp; iterate 2 exact rfl)
          | apply ja | apply jb | apply jg | apply jj | (apply je; exact rfl) | (apply jf; exact rfl) | apply jd | apply jh | apply ji | (apply jc; kernel_rfl) | apply jk | apply jl | apply jm | apply jn | apply jo | (apply jp; exact rfl) | apply jq | apply jr | apply js | apply jt | apply ju | apply jv | apply jw | apply kN | apply kM
          | (apply kf; iterate 2 exact rfl)
          | (apply ko; (· exact rfl); (· repeat (first | exact mH _ _ | apply mT)); iterate 2 exact rfl)
          | (apply ka; (· exact rfl); (· repeat (first | exact mH _ _ | apply mT)); iterate 2 exact rfl)
          | (apply kr; (· exact rfl); (· repeat (first | exact mH _ _ | apply mT)); iterate 3 exact rfl)
          | (apply ks; (· exact rfl); (· repeat (first | exact mH _ _ | apply mT)); iterate 2 exact rfl)
          | (apply kn; iterate 2 exact rfl)
          | (apply ke; iterate 2 exact rfl)
          | (apply kx; iterate 2 exact rfl)
          | (apply kc; iterate 2 exact rfl)
          | (apply kb; iterate 2 exact rfl)
          | (apply kg; iterate 2 exact rfl)
          | (apply kG; iterate 3 exact rfl)
          | (apply kB; (iterate 2 exact rfl); intro _)
          | (apply kA; exact rfl; intro _)
          | (apply kL; (iterate 3 exact rfl); (· repeat (first | exact BS.nil _ | (apply BS.int; exact rfl) | (apply BS.ptr; exact rfl) | (apply BS.slice; exact rfl) | (apply BS.agg; iterate 2 exact rfl))); intro _)
          | (apply kT; (iterate 2 exact rfl); (· repeat (first | exact sH _ _ _ | apply sT)); iterate 2 exact rfl)
          | (apply kS; (iterate 2 exact rfl); (· repeat (first | exact sH _ _ _ | apply sT)); exact rfl)
          | (apply kh; (iterate 2 exact rfl); (first | decide | omega); exact rfl)
          | (apply kl; (iterate 2 exact rfl); (first | decide | omega); exact rfl)
          )
        | (apply LR.ev; (· apply Ev.indexAddr; (· exact rfl); (· exact rfl); (· first | omega | (dsimp only; omega)); (· first | omega | (dsimp only; omega))); (· exact rfl))
        | (apply LR.ev; (· apply Ev.load_agg_at (cs := l[i2].row); (· exact rfl); (· exact rfl); (· intro w' hw'; exact rd_row MsgA.row_len (hw'.rd_of (by (repeat (first | exact mH _ _ | apply mT)))) hlt2 (by simp))); (· exact rfl))
        | ((first | (apply kR; (· exact rfl); (· exact rfl)) | (apply kQ; (· exact rfl))); all_goals (intro hc; try simp only [decide_eq_true_eq, decide_eq_false_iff_not, Bool.not_eq_true', Bool.not_eq_false', Bool.not_eq_true, Bool.not_eq_false, Bool.not_true, Bool.not_false, Int.not_lt, Int.not_le, List.cons.injEq, and_true, beq_iff_eq, beq_eq_false_iff_ne] at hc; try (exfalso; first | contradiction | omega)))
        )
      apply LR.call
      · exact rfl
      intro w1 h1
      refine CallsTo.mono (show CallsTo Try.prog 86 [.slice l[i2].a l[i2].m.body.length l[i2].c] w1 _ from c86 l[i2].a l[i2].c l[i2].m.body w1 (old h1 _ (List.getElem_mem hlt2)) hx.hz hx.hm) ?_
      rintro v w2 ⟨a1, c1, rfl, hn1⟩
      refine LR.back (h1.newSl hn1) ?_
      clear hn1 h1
      repeat' (
        first
        | (apply CW.reg_tail 15; decide +kernel)
        | (
          first
          | (apply kp; iterate 2 exact rfl)
          | apply ja | apply jb | apply jg | apply jj | (apply je; exact rfl) | (apply jf; exact rfl) | apply jd | apply jh | apply ji | (apply jc; kernel_rfl) | apply jk | apply jl | apply jm | apply jn | apply jo | (apply jp; exact rfl) | apply jq | apply jr | apply js | apply jt | apply ju | apply jv | apply jw | apply kN | apply kM
          | (apply kf; iterate 2 exact rfl)
          | (apply ko; (· exact rfl); (· repeat (first | exact mH _ _ | apply mT)); iterate 2 exact rfl)
          | (apply ka; (· exact rfl); (· repeat (first | exact mH _ _ | apply mT)); iterate 2 exact rfl)
          | (apply kr; (· exact rfl); (· repeat (first | exact mH _ _ | apply mT)); iterate 3 exact rfl)
          | (apply ks; (· exact rfl); (· repeat (first | exact mH _ _ | apply mT)); iterate 2 exact rfl)
          | (apply kn; iterate 2 exact rfl)
          | (apply ke; iterate 2 exact rfl)
          | (apply kx; iterate 2 exact rfl)
          | (apply kc; iterate 2 exact rfl)
          | (apply kb; iterate 2 exact rfl)
          | (apply kg; iterate 2 exact rfl)
          | (apply kG; iterate 3 exact rfl)
          | (apply kB; (iterate 2 exact rfl); intro _)
          | (apply kA; exact rfl; intro _)
          | (apply kL; (iterate 3 exact rfl); (· repeat (first | exact BS.nil _ | (apply BS.int; exact rfl) | (apply BS.ptr; exact rfl) | (apply BS.slice; exact rfl) | (apply BS.agg; iterate 2 exact rfl))); intro _)
          | (apply kT; (iterate 2 exact rfl); (· repeat (first | exact sH _ _ _ | apply sT)); iterate 2 exact rfl)
          | (apply kS; (iterate 2 exact rfl); (· repeat (first | exact sH _ _ _ | apply sT)); exact rfl)
          | (apply kh; (iterate 2 exact rfl); (first | decide | omega); exact rfl)
          | (apply kl; (iterate 2 exact rfl); (first | decide | omega); exact rfl)
          )
        | ((first | (apply kR; (· exact rfl); (· exact rfl)) | (apply kQ; (· exact rfl))); all_goals (intro hc; try simp only [decide_eq_true_eq, decide_eq_false_iff_not, Bool.not_eq_true', Bool.not_eq_false', Bool.not_eq_true, Bool.not_eq_false, Bool.not_true, Bool.not_false, Int.not_lt, Int.not_le, List.cons.injEq, and_true, beq_iff_eq, beq_eq_false_iff_ne] at hc; try (exfalso; first | contradiction | omega)))
        )
      repeat' (
        first
        | (apply TW.ev; (· exact evV_sound rfl); exact rfl)
        | (apply TW.ev
           · first
             | (apply Ev.load_own; (· exact rfl); (· repeat (first | exact mH _ _ | apply mT)); exact rfl)
             | (apply Ev.load_agg; (· exact rfl); (· repeat (first | exact mH _ _ | apply mT)); exact rfl)
             | (apply Ev.load_rdq; (· exact rfl); (· repeat (first | exact mH _ _ | apply mT)); iterate 2 exact rfl)
             | (apply Ev.load_ardq; (· exact rfl); (· repeat (first | exact mH _ _ | apply mT)); exact rfl)
             | (apply Ev.fieldAddr; exact rfl)
             | (apply Ev.len; exact rfl)
             | (apply EqOf.eq; exact rfl)
             | (apply EqOf.ne; exact rfl)
             | (apply Ev.conv; exact rfl)
             | (apply Ev.buildN; exact rfl)
             | (apply Ev.shr; (iterate 2 exact rfl); first | decide | omega)
             | (apply Ev.shl; (iterate 2 exact rfl); first | decide | omega)
           · exact rfl)
        | (apply TW.ev; (· first | (apply Ev.add; (· exact rfl); (· exact rfl); (· omega); (· omega)) | (apply Ev.rem; (· exact rfl); (· exact rfl); (· decide)) | (apply Ev.indexArr; (· exact rfl); (· exact rfl); (· omega); (· omega))); (· exact rfl))
        | (apply TW.yes; iterate 2 exact rfl)
        | (apply TW.no; iterate 3 exact rfl)
        | apply TW.nil
        )
      apply LR.store_obj (v := .agg (MsgA.row ⟨l[i2].m, a1, c1⟩).toArray) (z := qB b first L'.length slots') (z' := qB b first L'.length (slots'.set ((first + L'.length) % 32) ⟨l[i2].m, a1, c1⟩))
      · exact rfl
      · exact rfl
      · (repeat (first | exact sH _ _ _ | apply sT))
      · exact rfl
      · exact put_slot _ (by omega) h32 (by rw [ht.1])
      · exact Asrt.dep_own _ _
      repeat' (
        first
        | (
          first
          | (apply kp; iterate 2 exact rfl)
          | apply ja | apply jb | apply jg | apply jj | (apply je; exact rfl) | (apply jf; exact rfl) | apply jd | apply jh | apply ji | (apply jc; kernel_rfl) | apply jk | apply jl | apply jm | apply jn | apply jo | (apply jp; exact rfl) | apply jq | apply jr | apply js | apply jt | apply ju | apply jv | apply jw | apply kN | apply kM
          | (apply kf; iterate 2 exact rfl)
          | (apply ko; (· exact rfl); (· repeat (first | exact mH _ _ | apply mT)); iterate 2 exact rfl)
          | (apply ka; (· exact rfl); (· repeat (first | exact mH _ _ | apply mT)); iterate 2 exact rfl)
          | (apply kr; (· exact rfl); (· repeat (first | exact mH _ _ | apply mT)); iterate 3 exact rfl)
          | (apply ks; (· exact rfl); (· repeat (first | exact mH _ _ | apply mT)); iterate 2 exact rfl)
          | (apply kn; iterate 2 exact rfl)
          | (apply ke; iterate 2 exact rfl)
          | (apply kx; iterate 2 exact rfl)
          | (apply kc; iterate 2 exact rfl)
          | (apply kb; iterate 2 exact rfl)
          | (apply kg; iterate 2 exact rfl)
          | (apply kG; iterate 3 exact rfl)
          | (apply kB; (iterate 2 exact rfl); intro _)
          | (apply kA; exact rfl; intro _)
          | (apply kL; (iterate 3 exact rfl); (· repeat (first | exact BS.nil _ | (apply BS.int; exact rfl) | (apply BS.ptr; exact rfl) | (apply BS.slice; exact rfl) | (apply BS.agg; iterate 2 exact rfl))); intro _)
          | (apply kT; (iterate 2 exact rfl); (· repeat (first | exact sH _ _ _ | apply sT)); iterate 2 exact rfl)
          | (apply kS; (iterate 2 exact rfl); (· repeat (first | exact sH _ _ _ | apply sT)); exact rfl)
          | (apply kh; (iterate 2 exact rfl); (first | decide | omega); exact rfl)
          | (apply kl; (iterate 2 exact rfl); (first | decide | omega); exact rfl)
          )
        | (apply LR.ev; (· apply Ev.add; (· exact rfl); (· exact rfl); (· first | omega | (dsimp only; omega)); (· first | omega | (dsimp only; omega))); (· exact rfl))
        | ((first | (apply kR; (· exact rfl); (· exact rfl)) | (apply kQ; (· exact rfl))); all_goals (intro hc; try simp only [decide_eq_true_eq, decide_eq_false_iff_not, Bool.not_eq_true', Bool.not_eq_false', Bool.not_eq_true, Bool.not_eq_false, Bool.not_true, Bool.not_false, Int.not_lt, Int.not_le, List.cons.injEq, and_true, beq_iff_eq, beq_eq_false_iff_ne] at hc; try (exfalso; first | contradiction | omega)))
        )
      apply At.again (i2 + 1, slots'.set ((first + L'.length) % 32) ⟨l[i2].m, a1, c1⟩, L' ++ [⟨l[i2].m, a1, c1⟩])
      · refine ⟨by show i2 + 1 ≤ _; omega, hq'.put (by omega) _, ?_⟩
        show (L' ++ [MsgA.mk l[i2].m a1 c1]).map MsgA.m = _
        rw [List.map_append, hL', List.take_succ_eq_append_getElem hlt2, List.map_append, List.append_assoc]
        rfl
      · (repeat (first | exact Out.refl _ _ | exact Out.mix | (apply Out.upd; (· exact rfl)) | (apply Out.updL; (· exact rfl)) | (apply Out.mixs; (· exact rfl))))
      · exact ⟨rfl, trivial⟩
      · intro w' hw'
        have h2 := St.bun_snoc (f := MsgA.body) (x := ⟨l[i2].m, a1, c1⟩) (l := L') MsgA.dep MsgA.ex (front (front hw' 3 rfl rfl) 1 rfl rfl)
        have h3 := (front h2 2 rfl rfl).sub (L' := [qB b first (L'.length + 1) (slots'.set ((first + L'.length) % 32) ⟨l[i2].m, a1, c1⟩), bunB (L' ++ [⟨l[i2].m, a1, c1⟩]), rdA (some ⟨ba, oa, none⟩) (l.flatMap MsgA.row)]) (by repeat (first | exact List.Sublist.refl _ | apply List.Sublist.cons_cons | apply List.Sublist.cons))
        show St w F [qB b first (L' ++ [MsgA.mk l[i2].m a1 c1]).length (slots'.set ((first + L'.length) % 32) ⟨l[i2].m, a1, c1⟩), bunB (L' ++ [⟨l[i2].m, a1, c1⟩]), rdA (some ⟨ba, oa, none⟩) (l.flatMap MsgA.row)] w'
        rw [show (L' ++ [MsgA.mk l[i2].m a1 c1]).length = L'.length + 1 by simp]
        exact h3
      · show l.length - (i2 + 1) < l.length - i2
        omega
    · repeat' (
        first
        | (
          first
          | (apply kp; iterate 2 exact rfl)
          | apply ja | apply jb | apply jg | apply jj | (apply je; exact rfl) | (apply jf; exact rfl) | apply jd | apply jh | apply ji | (apply jc; kernel_rfl) | apply jk | apply jl | apply jm | apply jn | apply jo | (apply jp; exact rfl) | apply jq | apply jr | apply js | apply jt | apply ju | apply jv | apply jw | apply kN | apply kM
          | (apply kf; iterate 2 exact rfl)
          | (apply ko; (· exact rfl); (· repeat (first | exact mH _ _ | apply mT)); iterate 2 exact rfl)
          | (apply ka; (· exact rfl); (· repeat (first | exact mH _ _ | apply mT)); iterate 2 exact rfl)
          | (apply kr; (· exact rfl); (· repeat (first | exact mH _ _ | apply mT)); iterate 3 exact rfl)
          | (apply ks; (· exact rfl); (· repeat (first | exact mH _ _ | apply mT)); iterate 2 exact rfl)
          | (apply kn; iterate 2 exact rfl)
          | (apply ke; iterate 2 exact rfl)
          | (apply kx; iterate 2 exact rfl)
          | (apply kc; iterate 2 exact rfl)
          | (apply kb; iterate 2 exact rfl)
          | (apply kg; iterate 2 exact rfl)
          | (apply kG; iterate 3 exact rfl)
          | (apply kB; (iterate 2 exact rfl); intro _)
          | (apply kA; exact rfl; intro _)
          | (apply kL; (iterate 3 exact rfl); (· repeat (first | exact BS.nil _ | (apply BS.int; exact rfl) | (apply BS.ptr; exact rfl) | (apply BS.slice; exact rfl) | (apply BS.agg; iterate 2 exact rfl))); intro _)
          | (apply kT; (iterate 2 exact rfl); (· repeat (first | exact sH _ _ _ | apply sT)); iterate 2 exact rfl)
          | (apply kS; (iterate 2 exact rfl); (· repeat (first | exact sH _ _ _ | apply sT)); exact rfl)
          | (apply kh; (iterate 2 exact rfl); (first | decide | omega); exact rfl)
          | (apply kl; (iterate 2 exact rfl); (first | decide | omega); exact rfl)
          )
        | ((first | (apply kR; (· exact rfl); (· exact rfl)) | (apply kQ; (· exact rfl))); all_goals (intro hc; try simp only [decide_eq_true_eq, decide_eq_false_iff_not, Bool.not_eq_true', Bool.not_eq_false', Bool.not_eq_true, Bool.not_eq_false, Bool.not_true, Bool.not_false, Int.not_lt, Int.not_le, List.cons.injEq, and_true, beq_iff_eq, beq_eq_false_iff_ne] at hc; try (exfalso; first | contradiction | omega)))
        )
      (apply ret1; (· exact rfl); intro w' hS)
      rw [List.take_of_length_le (by omega)] at hL'
      exact ⟨slots', L', rfl, hq', by simpa using hL', fin slots' L' _ w' hS⟩
end Go.Proofs.Ytomlgnncncjmaaa
