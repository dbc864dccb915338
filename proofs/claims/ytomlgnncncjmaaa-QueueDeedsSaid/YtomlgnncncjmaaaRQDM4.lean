/-
  Queues are as the chapter says, of all deeds; what is handed in is not kept, and what is answered is memory of its own. Conditions: none.
-/
import Derived.Test.YtomlgnncncjmaaaRQDM3
import Derived.Deep.AppendSrc

namespace Go.Proofs.Ytomlgnncncjmaaa
open Go.Hb
attribute [local irreducible] LR CW At Ev thn blk finK noG again CallsTo DW QL dnext TW DP
set_option linter.unusedSimpArgs false
set_option linter.unusedVariables false
set_option maxRecDepth 100000

theorem qB_in {b first many : Nat} {slots : List MsgA} {w : World} (h : w.heap[b]? = some (.cells (qcells first many slots).toArray 82 (0, 0))) : St w (qB b first many slots).foot [qB b first many slots] w :=
  St.one (a := qB b first many slots) h (fun k hk => by have hk : k = b := hk; subst hk; exact (Array.getElem?_eq_some_iff.1 h).1) (Asrt.dep_own _ _)
theorem c44e (b first : Nat) (slots : List MsgA) (w : World) (h : Rd w (some ⟨b, 0, none⟩) (qcells first 0 slots)) : CallsTo Try.prog 44 [.pointer (some ⟨b, 0, none⟩)] w fun v w' => v = .tuple [zeroMsg.val none 0, .int .i64 8].toArray ∧ Grew w w' := by
  refine go_in (n := 51) (St.rd1 h) Try.func44 rfl rfl ?_
  repeat'(first|(apply kp;iterate 2 exact rfl)|apply jJ|(apply jE;exact rfl)|(apply jp;exact rfl)|(apply jc;kernel_rfl)|((first|apply kf|apply kn|apply ke|apply kx|apply kc|apply kb);iterate 2 exact rfl)|((first|apply kz|apply ky);(·exact rfl);(·repeat(first|exact iO|exact iR rfl|apply iT));iterate 2 exact rfl)|(apply kg;iterate 2 exact rfl)|(apply kG;iterate 3 exact rfl)|(apply kB;(iterate 2 exact rfl);intro _)|(apply kA;exact rfl;intro _)|(apply kK;(iterate 4 exact rfl);intro _)|(apply kU;(iterate 2 exact rfl);(·repeat(first|exact sH _ _ _|apply sT));(first|exact nfL_eq rfl|exact rfl);exact rfl)|((first|apply kh|apply kl);(iterate 2 exact rfl);(first|decide|omega);exact rfl)|(apply kq; (· exact rfl); (· intro w1 h1; exact CallsTo.q (c85 b first 0 slots w1 (h1.rd_of (by (repeat (first | exact mH _ _ | apply mT))))) h1))|((first|(apply kR;iterate 2 exact rfl)|(apply kQ;exact rfl));all_goals(intro hc;try simp only[hcs]at hc;try(exfalso;first|contradiction|omega))))
  (apply ret2c; (· exact rfl); (· exact inferInstance); (· exact rfl); (· (repeat (first | exact List.Mem.head _ | apply List.Mem.tail))); (· exact rfl); intro w' hS)
  exact ⟨rfl, hS.toKeep⟩
theorem q_agg {b first many : Nat} {slots : List MsgA} {w : World} (h : w.heap[b]? = some (.cells (qcells first many slots).toArray 82 (0, 0))) {k : Nat} (hk : k < slots.length) {q : Nat} (hq : q = 3 + k * 13) : ∀ j v, (slots[k].row)[j]? = some v → w.cell? ((⟨b, q, none⟩ : Addr).add j) = some v := by
  intro j v hj
  subst hq
  rw [addr_add, cell_own h]
  simpa using qcells_row hk hj
theorem tmod32 (n : Nat) : ((n : Int).tmod 32).toNat = n % 32 ∧ 0 ≤ (n : Int).tmod 32 ∧ (n : Int).tmod 32 < 32 ∧ (n : Int).tmod 32 = ((n % 32 : Nat) : Int) := by
  have h := Int.tmod_eq_emod_of_nonneg (a := (n : Int)) (b := 32) (by omega)
  rw [h]
  omega
theorem put_slot {b first many k : Nat} {slots : List MsgA} (x : MsgA) (hk : k < slots.length) (h32 : slots.length = 32) {q : Nat} (hq : q = 3 + k * 13) :
    Stores Try.prog 28 ⟨b, q, none⟩ (.agg x.row.toArray) (qB b first many slots) (qB b first many (slots.set k x)) := by
  subst hq
  have st := Stores.own (P := Try.prog) (T := 28) (m := 13) (b := b) (o := 3 + k * 13) (v := .agg x.row.toArray) (cs := qcells first many slots) (vs := x.row) (E := 82) inferInstance rfl (by simp [MsgA.row, Msg.cells, Value.oneCell']) rfl (by rw [qcells_len _ _ _ h32]; show 3 + k * 13 + 13 ≤ 419; omega)
  rwa [splice_q _ _ _ _ _ hk] at st
theorem put_many {b first many many' : Nat} {slots : List MsgA} : Stores Try.prog 3 ⟨b, 2, none⟩ (.int .i64 (many' : Int)) (qB b first many slots) (qB b first many' slots) :=
  Stores.own (P := Try.prog) (T := 3) (m := 1) (b := b) (o := 2) (v := .int .i64 (many' : Int)) (cs := qcells first many slots) (vs := [.int .i64 (many' : Int)]) (E := 82) inferInstance rfl rfl rfl (by simp [qcells])
theorem put_first {b first first' many : Nat} {slots : List MsgA} : Stores Try.prog 3 ⟨b, 1, none⟩ (.int .i64 (first' : Int)) (qB b first many slots) (qB b first' many slots) :=
  Stores.own (P := Try.prog) (T := 3) (m := 1) (b := b) (o := 1) (v := .int .i64 (first' : Int)) (cs := qcells first many slots) (vs := [.int .i64 (first' : Int)]) (E := 82) inferInstance rfl rfl rfl (by simp [qcells])
set_option maxHeartbeats 1000000 in
theorem c44 (b first many : Nat) (slots : List MsgA) (w : World) (h : w.heap[b]? = some (.cells (qcells first many slots).toArray 82 (0, 0))) (h32 : slots.length = 32) (hf : first < 32) (hm : 0 < many) (hm2 : many ≤ 32) (x : MsgA) (hx : slots[first]? = some x) :
    CallsTo Try.prog 44 [.pointer (some ⟨b, 0, none⟩)] w fun v w' => v = .tuple [x.m.val x.a x.c, .int .i64 0].toArray ∧ Step (qB b first many slots) (qB b ((first + 1) % 32) (many - 1) (slots.set first zeroA)) w w' := by
  refine go_in (n := 51) (qB_in h) Try.func44 rfl rfl ?_
  obtain ⟨hk, hxe⟩ := List.getElem?_eq_some_iff.1 hx
  have ht := tmod32 (first + 1)
  have e1 : ((first + 1 : Nat) : Int) = (first : Int) + 1 := rfl
  rw [e1] at ht
  repeat'(first|(apply CW.reg_heldC)|(apply kp;iterate 2 exact rfl)|apply jJ|(apply jE;exact rfl)|(apply jp;exact rfl)|(apply jc;kernel_rfl)|((first|apply kf|apply kn|apply ke|apply kx|apply kc|apply kb);iterate 2 exact rfl)|((first|apply kz|apply ky);(·exact rfl);(·repeat(first|exact iO|exact iR rfl|apply iT));iterate 2 exact rfl)|(apply kg;iterate 2 exact rfl)|(apply kG;iterate 3 exact rfl)|(apply kB;(iterate 2 exact rfl);intro _)|(apply kA;exact rfl;intro _)|(apply kK;(iterate 4 exact rfl);intro _)|(apply kU;(iterate 2 exact rfl);(·repeat(first|exact sH _ _ _|apply sT));(first|exact nfL_eq rfl|exact rfl);exact rfl)|((first|apply kh|apply kl);(iterate 2 exact rfl);(first|decide|omega);exact rfl)|(apply kq; (· exact rfl); (· intro w1 h1; exact CallsTo.q (c85 b first many slots w1 (h1.rd_of_blk (by (repeat (first | exact mH _ _ | apply mT))))) h1))|((first|(apply kR;iterate 2 exact rfl)|(apply kQ;exact rfl));all_goals(intro hc;try simp only[hcs]at hc;try(exfalso;first|contradiction|omega))))
  apply DW.quiet [0, 1, 2, 3, 4, 5, 6, 7, 8]
  · decide +kernel
  · exact fun _ h => h
  repeat'(first|(apply yp;iterate 3 exact rfl)|(apply QL.ev;(·exact rfl);(·first|((first|apply Ez|apply Ey);(·exact rfl);(·repeat(first|exact iO|exact iR rfl|apply iT));exact rfl)|((first|apply Ev.fieldAddr|apply Ev.len|apply EqOf.eq|apply EqOf.ne|apply Ev.conv|apply Ev.buildN);exact rfl)|((first|apply Ev.shr|apply Ev.shl);(iterate 2 exact rfl);first|decide|omega));·exact rfl)|(apply QL.ev; (· exact rfl); (· first | (apply Ev.indexArr; (· exact rfl); (· exact rfl); (· omega); (· omega)) | (apply Ev.load_agg_at (cs := x.row); (· exact rfl); (· exact rfl); (· intro w' hw'; rw [← hxe]; exact q_agg (hw'.own_at (b := b) (by (repeat (first | exact mH _ _ | apply mT)))) hk (by simp)))); (· exact rfl))|(apply yq;iterate 5 exact rfl)|(apply QL.evg;(iterate 3 exact rfl);(·first|((first|apply Ez|apply Ey);(·exact rfl);(·repeat(first|exact iO|exact iR rfl|apply iT));exact rfl)|((first|apply Ev.fieldAddr|apply Ev.len|apply EqOf.eq|apply EqOf.ne|apply Ev.conv|apply Ev.buildN);exact rfl)|((first|apply Ev.shr|apply Ev.shl);(iterate 2 exact rfl);first|decide|omega));·exact rfl)|(apply yn;iterate 4 exact rfl)|((apply QL.split;iterate 3 exact rfl);all_goals(intro hc;try simp only[hcs]at hc;try(exfalso;first|contradiction|omega)))|apply QL.nil)
  all_goals (show DW _ _ _ _ _ _ _ _)
  apply DW.loud 9
  · exact rfl
  · decide +kernel
  repeat'(first|(apply kg;iterate 2 exact rfl)|(apply kG;iterate 3 exact rfl)|apply kM|(apply kp;iterate 2 exact rfl)|((first|apply kz|apply ky);(·exact rfl);(·repeat(first|exact iO|exact iR rfl|apply iT));iterate 2 exact rfl)|(apply kK;(iterate 4 exact rfl);intro _)|(apply kU;(iterate 2 exact rfl);(·repeat(first|exact sH _ _ _|apply sT));(first|exact nfL_eq rfl|exact rfl);exact rfl)|(apply kB;(iterate 2 exact rfl);intro _)|(apply kA;exact rfl;intro _))
  refine At.stage_same (fun _ h => St.sub h (by repeat (first | exact List.Sublist.refl _ | apply List.Sublist.cons_cons | apply List.Sublist.cons))) ?_
  apply DW.loud 10
  · exact rfl
  · decide +kernel
  repeat'(first|(apply kg;iterate 2 exact rfl)|(apply kG;iterate 3 exact rfl)|apply kM|(apply kp;iterate 2 exact rfl)|((first|apply kz|apply ky);(·exact rfl);(·repeat(first|exact iO|exact iR rfl|apply iT));iterate 2 exact rfl)|(apply kK;(iterate 4 exact rfl);intro _)|(apply kU;(iterate 2 exact rfl);(·repeat(first|exact sH _ _ _|apply sT));(first|exact nfL_eq rfl|exact rfl);exact rfl)|(apply kB;(iterate 2 exact rfl);intro _)|(apply kA;exact rfl;intro _))
  refine At.stage_same (fun _ h => St.sub h (by repeat (first | exact List.Sublist.refl _ | apply List.Sublist.cons_cons | apply List.Sublist.cons))) ?_
  apply DW.done_thn
  · decide +kernel
  repeat'(first|(apply CW.reg_tail 9; decide +kernel)|(apply kp;iterate 2 exact rfl)|apply jJ|(apply jE;exact rfl)|(apply jp;exact rfl)|(apply jc;kernel_rfl)|((first|apply kf|apply kn|apply ke|apply kx|apply kc|apply kb);iterate 2 exact rfl)|((first|apply kz|apply ky);(·exact rfl);(·repeat(first|exact iO|exact iR rfl|apply iT));iterate 2 exact rfl)|(apply kg;iterate 2 exact rfl)|(apply kG;iterate 3 exact rfl)|(apply kB;(iterate 2 exact rfl);intro _)|(apply kA;exact rfl;intro _)|(apply kK;(iterate 4 exact rfl);intro _)|(apply kU;(iterate 2 exact rfl);(·repeat(first|exact sH _ _ _|apply sT));(first|exact nfL_eq rfl|exact rfl);exact rfl)|((first|apply kh|apply kl);(iterate 2 exact rfl);(first|decide|omega);exact rfl)|((first|(apply kR;iterate 2 exact rfl)|(apply kQ;exact rfl));all_goals(intro hc;try simp only[hcs]at hc;try(exfalso;first|contradiction|omega))))
  repeat'(first|(apply TW.ev;(·exact evV_sound rfl);exact rfl)|(apply TW.ev;(·first|((first|apply Ez|apply Ey);(·exact rfl);(·repeat(first|exact iO|exact iR rfl|apply iT));exact rfl)|((first|apply Ev.fieldAddr|apply Ev.len|apply EqOf.eq|apply EqOf.ne|apply Ev.conv|apply Ev.buildN);exact rfl)|((first|apply Ev.shr|apply Ev.shl);(iterate 2 exact rfl);first|decide|omega));·exact rfl)|(apply TW.ev; (· apply Ev.indexArr; (· exact rfl); (· exact rfl); (· omega); (· omega)); (· exact rfl))|(apply TW.yes;iterate 2 exact rfl)|(apply TW.no;iterate 3 exact rfl)|apply TW.nil)
  refine LR.store_obj (v := .agg zeroA.row.toArray) (z' := qB b first many (slots.set first zeroA)) rfl rfl (by (repeat (first | exact sH _ _ _ | apply sT))) rfl (put_slot zeroA hk h32 (by simp)) (Asrt.dep_own _ _) ?_
  repeat'(first|(apply kp;iterate 2 exact rfl)|apply jJ|(apply jE;exact rfl)|(apply jp;exact rfl)|(apply jc;kernel_rfl)|((first|apply kf|apply kn|apply ke|apply kx|apply kc|apply kb);iterate 2 exact rfl)|((first|apply kz|apply ky);(·exact rfl);(·repeat(first|exact iO|exact iR rfl|apply iT));iterate 2 exact rfl)|(apply kg;iterate 2 exact rfl)|(apply kG;iterate 3 exact rfl)|(apply kB;(iterate 2 exact rfl);intro _)|(apply kA;exact rfl;intro _)|(apply kK;(iterate 4 exact rfl);intro _)|(apply kU;(iterate 2 exact rfl);(·repeat(first|exact sH _ _ _|apply sT));(first|exact nfL_eq rfl|exact rfl);exact rfl)|((first|apply kh|apply kl);(iterate 2 exact rfl);(first|decide|omega);exact rfl)|(apply addX;(iterate 2 exact rfl);(iterate 2(first|omega|(dsimp only;omega)));exact rfl)|(apply LR.ev; (· apply Ev.rem; (· exact rfl); (· exact rfl); (· first | decide | omega)); (· exact rfl))|(apply subX;(iterate 2 exact rfl);(iterate 2(first|omega|(dsimp only;omega)));exact rfl)|((first|(apply kR;iterate 2 exact rfl)|(apply kQ;exact rfl));all_goals(intro hc;try simp only[hcs]at hc;try(exfalso;first|contradiction|omega))))
  (apply ret2c; (· exact rfl); (· exact inferInstance); (· exact rfl); (· (repeat (first | exact List.Mem.head _ | apply List.Mem.tail))); (· exact rfl); intro w' hS)
  have e3 : splice (splice (qcells first many (slots.set first zeroA)) 1 [.int .i64 (((first : Int) + 1).tmod 32)]) 2 [.int .i64 ((many : Int) - 1)] = qcells ((first + 1) % 32) (many - 1) (slots.set first zeroA) := by
    rw [ht.2.2.2, show (many : Int) - 1 = ((many - 1 : Nat) : Int) by omega]
    rfl
  exact ⟨rfl, ((front hS 2 rfl rfl).cast (congrArg (fun c : List Value => Asrt.own b (.cells c.toArray 82 (0, 0)) :: _) e3)).step rfl⟩

/-! ### the round -/
theorem QRep.put {f : Nat} {slots L : List MsgA} (h : QRep f slots L) (hlt : L.length < 32) (x : MsgA) : QRep f (slots.set ((f + L.length) % 32) x) (L ++ [x]) := by
  refine ⟨by simp [h.h32], h.hf, by simp; omega, fun i hi => ?_⟩
  simp only [List.length_append, List.length_cons, List.length_nil] at hi
  have hf := h.hf
  have h32 := h.h32
  by_cases he : i = L.length
  · subst he
    rw [List.getElem?_set_self (by rw [h32]; omega)]
    simp
  · have hne : (f + L.length) % 32 ≠ (f + i) % 32 := by omega
    rw [List.getElem?_set_ne hne, h.at_ i (by omega)]
    simp [List.getElem_append_left (show i < L.length by omega)]
theorem QRep.take {f : Nat} {slots L : List MsgA} {x : MsgA} (h : QRep f slots (x :: L)) : QRep ((f + 1) % 32) (slots.set f zeroA) L ∧ slots[f]? = some x := by
  have hf := h.hf
  have hl := h.hL
  simp only [List.length_cons] at hl
  refine ⟨⟨by simp [h.h32], by omega, by omega, fun i hi => ?_⟩, ?_⟩
  · have := h.at_ (i + 1) (by simp; omega)
    have hne : f ≠ ((f + 1) % 32 + i) % 32 := by omega
    rw [List.getElem?_set_ne hne, show ((f + 1) % 32 + i) % 32 = (f + (i + 1)) % 32 by omega, this]
    simp
  · have := h.at_ 0 (by simp)
    rw [show (f + 0) % 32 = f by omega] at this
    simpa using this
theorem QRep.start : QRep 0 (List.replicate 32 zeroA) [] := ⟨by simp, by omega, by simp, fun i hi => by simp at hi⟩
structure MR (w : World) (x : MsgA) : Prop where
  hr : Rd w x.a (bv x.m.body)
  hz : x.a = none → x.c = 0
  hm : x.m.body.length ≤ 140737488355328
  hb : Byt x.m.body
def qputE (n : Nat) (l : List MsgA) : Int := if (l.any fun x => decide (check x.m ≠ 0)) = true then 2 else if 32 - (n : Int) < (l.length : Int) then 7 else 0
def qO (b first : Nat) (slots L : List MsgA) : Asrt := both (qB b first L.length slots) (bunB L)
theorem qO_dep (b first : Nat) (slots L : List MsgA) : (qO b first slots L).dep := both_dep (Asrt.dep_own _ _) (bun_dep MsgA.dep L)
set_option maxHeartbeats 4000000 in
theorem c41 (b first : Nat) (slots L : List MsgA) (al : Option Addr) (cl : Nat) (l : List MsgA) (w : World) (h : (qO b first slots L).holds w) (hq : QRep first slots L)
    (hr : Rd w al (l.flatMap MsgA.row)) (hd : ∀ k, rdFoot al (l.flatMap MsgA.row) k → ¬ (qO b first slots L).foot k) (hR : ∀ x ∈ l, MR w x) (hRd : ∀ x ∈ l, ∀ k, rdFoot x.a (bv x.m.body) k → ¬ (qO b first slots L).foot k) (hm : l.length ≤ 140737488355328) :
    CallsTo Try.prog 41 [.pointer (some ⟨b, 0, none⟩), .slice al l.length cl] w fun v w' => ∃ slots' L', v = .int .i64 (qputE L.length l) ∧ QRep first slots' L' ∧ L'.map MsgA.m = L.map MsgA.m ++ (if qputE L.length l = 0 then l.map MsgA.m else []) ∧ Step (qO b first slots L) (qO b first slots' L') w w' := by
  have hS0 := St.one h (both_live h) (qO_dep b first slots L)
  have hS1 := (front (hS0.addRd hr hd) 1 rfl rfl).part (Asrt.dep_own _ _) (bun_dep MsgA.dep L)
  have hs0 : Step (qO b first slots L) (qO b first slots L) w w := hS0.step rfl
  have fin : ∀ (slots' L' : List MsgA) (R : List Asrt) (w' : World), St w (qO b first slots L).foot (qB b first L'.length slots' :: bunB L' :: R) w' → Step (qO b first slots L) (qO b first slots' L') w w' := fun slots' L' R w' hS => (hS.join rfl rfl).step rfl
  generalize hF : (qO b first slots L).foot = F at *
  have old : ∀ {L1 : List Asrt} {w1 : World}, St w F L1 w1 → ∀ x ∈ l, Rd w1 x.a (bv x.m.body) := fun h1 x hx => h1.oldRdF (hR x hx).hr (hRd x hx)
  refine go_in (n := 59) (hS1.cast (L' := [qB b first L.length slots, bunB L, rdA al (l.flatMap MsgA.row)]) rfl) Try.func41 rfl rfl ?_
  repeat'(first|(apply kp;iterate 2 exact rfl)|apply jJ|(apply jE;exact rfl)|(apply jp;exact rfl)|(apply jc;kernel_rfl)|((first|apply kf|apply kn|apply ke|apply kx|apply kc|apply kb);iterate 2 exact rfl)|((first|apply kz|apply ky);(·exact rfl);(·repeat(first|exact iO|exact iR rfl|apply iT));iterate 2 exact rfl)|(apply kg;iterate 2 exact rfl)|(apply kG;iterate 3 exact rfl)|(apply kB;(iterate 2 exact rfl);intro _)|(apply kA;exact rfl;intro _)|(apply kK;(iterate 4 exact rfl);intro _)|(apply kU;(iterate 2 exact rfl);(·repeat(first|exact sH _ _ _|apply sT));(first|exact nfL_eq rfl|exact rfl);exact rfl)|((first|apply kh|apply kl);(iterate 2 exact rfl);(first|decide|omega);exact rfl)|(apply kq; (· exact rfl); (· intro w1 h1; exact CallsTo.q (c85 b first L.length slots w1 (h1.rd_of_blk (by (repeat (first | exact mH _ _ | apply mT))))) h1))|((first|(apply kR;iterate 2 exact rfl)|(apply kQ;exact rfl));all_goals(intro hc;try simp only[hcs]at hc;try(exfalso;first|contradiction|omega))))
  apply CW.loop [4, 6, 13, 14, 15, 16, 17, 18, 19, 20] (fun i : Nat => i ≤ l.length ∧ ∀ x ∈ l.take i, check x.m = 0) (fun i => [(13, Value.int .i64 (i : Int))]) (fun i => St w F [qB b first L.length slots, bunB L, rdA al (l.flatMap MsgA.row)]) (fun i => l.length - i)
  · exact fun w' hw' => ⟨0, ⟨by omega, by simp⟩, ⟨rfl, trivial⟩, hw'⟩
  intro i g ⟨hi, hck⟩
  by_cases hlt : i < l.length
  · obtain ⟨ba, oa, rfl⟩ := hr.form (rows_ne MsgA.row_len (by omega) hlt)
    have hx := hR _ (List.getElem_mem hlt)
    repeat'(first|(apply kp;iterate 2 exact rfl)|apply jJ|(apply jE;exact rfl)|(apply jp;exact rfl)|(apply jc;kernel_rfl)|((first|apply kf|apply kn|apply ke|apply kx|apply kc|apply kb);iterate 2 exact rfl)|((first|apply kz|apply ky);(·exact rfl);(·repeat(first|exact iO|exact iR rfl|apply iT));iterate 2 exact rfl)|(apply kg;iterate 2 exact rfl)|(apply kG;iterate 3 exact rfl)|(apply kB;(iterate 2 exact rfl);intro _)|(apply kA;exact rfl;intro _)|(apply kK;(iterate 4 exact rfl);intro _)|(apply kU;(iterate 2 exact rfl);(·repeat(first|exact sH _ _ _|apply sT));(first|exact nfL_eq rfl|exact rfl);exact rfl)|((first|apply kh|apply kl);(iterate 2 exact rfl);(first|decide|omega);exact rfl)|(apply idxX;(iterate 2 exact rfl);(iterate 2(first|omega|(dsimp only;omega)));exact rfl)|(apply LR.ev; (· apply Ev.load_agg_at (cs := l[i].row); (· exact rfl); (· exact rfl); (· intro w' hw'; exact rd_row MsgA.row_len (hw'.rd_of (by (repeat (first | exact mH _ _ | apply mT)))) hlt (by simp))); (· exact rfl))|(apply kq; (· exact rfl); (· intro w1 h1; have hq := CallsTo.q (d17 l[i].m l[i].a l[i].c w1 (old h1 _ (List.getElem_mem hlt)) hx.hz hx.hm hx.hb) h1; show CallsTo Try.prog 17 [l[i].m.val l[i].a l[i].c] w1 _; exact hq))|(apply addX;(iterate 2 exact rfl);(iterate 2(first|omega|(dsimp only;omega)));exact rfl)|((first|(apply kR;iterate 2 exact rfl)|(apply kQ;exact rfl));all_goals(intro hc;try simp only[hcs]at hc;try(exfalso;first|contradiction|omega))))
    · (apply ret1; (· exact rfl); intro w' hS)
      have e : qputE L.length l = 2 := by
        unfold qputE
        rw [if_pos]
        rw [List.any_eq_true]
        exact ⟨l[i], List.getElem_mem hlt, by simpa using hc⟩
      rw [e]
      exact ⟨slots, L, rfl, hq, by simp, fin slots L _ w' ((front (front hS 2 rfl rfl) 2 rfl rfl))⟩
    · apply At.again (i + 1)
      · refine ⟨by show i + 1 ≤ _; omega, fun x hx2 => ?_⟩
        rw [List.take_succ_eq_append_getElem hlt] at hx2
        rcases List.mem_append.1 hx2 with hx2 | hx2
        · exact hck x hx2
        · have : x = l[i] := by simpa using hx2
          subst this; exact hc
      · (repeat (first | exact Out.refl _ _ | exact Out.mix | (apply Out.upd; (· exact rfl)) | (apply Out.updL; (· exact rfl)) | (apply Out.mixs; (· exact rfl))))
      · exact ⟨rfl, trivial⟩
      · exact fun w' hw' => hw'.sub (by repeat (first | exact List.Sublist.refl _ | apply List.Sublist.cons_cons | apply List.Sublist.cons))
      · omega
  · have hL := hq.hL
    have hany : ¬ (l.any fun x => decide (check x.m ≠ 0)) = true := by
      rw [List.any_eq_true]
      rintro ⟨x, hx1, hx2⟩
      rw [List.take_of_length_le (by omega)] at hck
      exact absurd (hck x hx1) (by simpa using hx2)
    repeat'(first|(apply kp;iterate 2 exact rfl)|apply jJ|(apply jE;exact rfl)|(apply jp;exact rfl)|(apply jc;kernel_rfl)|((first|apply kf|apply kn|apply ke|apply kx|apply kc|apply kb);iterate 2 exact rfl)|((first|apply kz|apply ky);(·exact rfl);(·repeat(first|exact iO|exact iR rfl|apply iT));iterate 2 exact rfl)|(apply kg;iterate 2 exact rfl)|(apply kG;iterate 3 exact rfl)|(apply kB;(iterate 2 exact rfl);intro _)|(apply kA;exact rfl;intro _)|(apply kK;(iterate 4 exact rfl);intro _)|(apply kU;(iterate 2 exact rfl);(·repeat(first|exact sH _ _ _|apply sT));(first|exact nfL_eq rfl|exact rfl);exact rfl)|((first|apply kh|apply kl);(iterate 2 exact rfl);(first|decide|omega);exact rfl)|(apply kq; (· exact rfl); (· intro w1 h1; exact CallsTo.q (c48 b first L.length slots w1 (h1.rd_of_blk (by (repeat (first | exact mH _ _ | apply mT)))) hL) h1))|((first|(apply kR;iterate 2 exact rfl)|(apply kQ;exact rfl));all_goals(intro hc;try simp only[hcs]at hc;try(exfalso;first|contradiction|omega))))
    · (apply ret1; (· exact rfl); intro w' hS)
      have e : qputE L.length l = 7 := by unfold qputE; rw [if_neg hany, if_pos (by omega)]
      rw [e]
      exact ⟨slots, L, rfl, hq, by simp, fin slots L _ w' hS⟩
    have e : qputE L.length l = 0 := by unfold qputE; rw [if_neg hany, if_neg (by omega)]
    rw [e]
    have hroom : l.length ≤ 32 - L.length := by omega
    apply CW.loop [8, 28, 29, 30, 31, 32, 33, 34, 35, 36, 37, 38, 39, 40, 41, 42, 43, 44, 45, 46, 47, 48, 49, 50, 51, 52, 53, 54, 55, 56, 57, 58] (fun s : Nat × List MsgA × List MsgA => s.1 ≤ l.length ∧ QRep first s.2.1 s.2.2 ∧ s.2.2.map MsgA.m = L.map MsgA.m ++ (l.take s.1).map MsgA.m) (fun s => [(28, Value.int .i64 (s.1 : Int))])
      (fun s => St w F [qB b first s.2.2.length s.2.1, bunB s.2.2, rdA al (l.flatMap MsgA.row)]) (fun s => l.length - s.1)
    · exact fun w' hw' => ⟨(0, slots, L), ⟨by simp, hq, by simp⟩, ⟨rfl, trivial⟩, hw'⟩
    rintro ⟨i2, slots', L'⟩ g2 ⟨hi2, hq', hL'⟩
    simp only at hi2 hq' hL' ⊢
    have hlen : L'.length = L.length + i2 := by have := congrArg List.length hL'; simp at this; omega
    by_cases hlt2 : i2 < l.length
    · obtain ⟨ba, oa, rfl⟩ := hr.form (rows_ne MsgA.row_len (by omega) hlt2)
      have hx := hR _ (List.getElem_mem hlt2)
      have h32 := hq'.h32
      have ht := tmod32 (first + L'.length)
      rw [show ((first + L'.length : Nat) : Int) = (first : Int) + (L'.length : Int) from rfl] at ht
      have hf := hq'.hf
      repeat'(first|(apply kp;iterate 2 exact rfl)|apply jJ|(apply jE;exact rfl)|(apply jp;exact rfl)|(apply jc;kernel_rfl)|((first|apply kf|apply kn|apply ke|apply kx|apply kc|apply kb);iterate 2 exact rfl)|((first|apply kz|apply ky);(·exact rfl);(·repeat(first|exact iO|exact iR rfl|apply iT));iterate 2 exact rfl)|(apply kg;iterate 2 exact rfl)|(apply kG;iterate 3 exact rfl)|(apply kB;(iterate 2 exact rfl);intro _)|(apply kA;exact rfl;intro _)|(apply kK;(iterate 4 exact rfl);intro _)|(apply kU;(iterate 2 exact rfl);(·repeat(first|exact sH _ _ _|apply sT));(first|exact nfL_eq rfl|exact rfl);exact rfl)|((first|apply kh|apply kl);(iterate 2 exact rfl);(first|decide|omega);exact rfl)|(apply idxX;(iterate 2 exact rfl);(iterate 2(first|omega|(dsimp only;omega)));exact rfl)|(apply LR.ev; (· apply Ev.load_agg_at (cs := l[i2].row); (· exact rfl); (· exact rfl); (· intro w' hw'; exact rd_row MsgA.row_len (hw'.rd_of (by (repeat (first | exact mH _ _ | apply mT)))) hlt2 (by simp))); (· exact rfl))|((first|(apply kR;iterate 2 exact rfl)|(apply kQ;exact rfl));all_goals(intro hc;try simp only[hcs]at hc;try(exfalso;first|contradiction|omega))))
      apply LR.call
      · exact rfl
      intro w1 h1
      refine CallsTo.mono (show CallsTo Try.prog 86 [.slice l[i2].a l[i2].m.body.length l[i2].c] w1 _ from c86 l[i2].a l[i2].c l[i2].m.body w1 (old h1 _ (List.getElem_mem hlt2)) hx.hz hx.hm) ?_
      rintro v w2 ⟨a1, c1, rfl, hn1⟩
      refine LR.back (h1.newSl hn1) ?_
      clear hn1 h1
      repeat'(first|(apply CW.reg_tail 15; decide +kernel)|(apply kp;iterate 2 exact rfl)|apply jJ|(apply jE;exact rfl)|(apply jp;exact rfl)|(apply jc;kernel_rfl)|((first|apply kf|apply kn|apply ke|apply kx|apply kc|apply kb);iterate 2 exact rfl)|((first|apply kz|apply ky);(·exact rfl);(·repeat(first|exact iO|exact iR rfl|apply iT));iterate 2 exact rfl)|(apply kg;iterate 2 exact rfl)|(apply kG;iterate 3 exact rfl)|(apply kB;(iterate 2 exact rfl);intro _)|(apply kA;exact rfl;intro _)|(apply kK;(iterate 4 exact rfl);intro _)|(apply kU;(iterate 2 exact rfl);(·repeat(first|exact sH _ _ _|apply sT));(first|exact nfL_eq rfl|exact rfl);exact rfl)|((first|apply kh|apply kl);(iterate 2 exact rfl);(first|decide|omega);exact rfl)|((first|(apply kR;iterate 2 exact rfl)|(apply kQ;exact rfl));all_goals(intro hc;try simp only[hcs]at hc;try(exfalso;first|contradiction|omega))))
      repeat'(first|(apply TW.ev;(·exact evV_sound rfl);exact rfl)|(apply TW.ev;(·first|((first|apply Ez|apply Ey);(·exact rfl);(·repeat(first|exact iO|exact iR rfl|apply iT));exact rfl)|((first|apply Ev.fieldAddr|apply Ev.len|apply EqOf.eq|apply EqOf.ne|apply Ev.conv|apply Ev.buildN);exact rfl)|((first|apply Ev.shr|apply Ev.shl);(iterate 2 exact rfl);first|decide|omega));·exact rfl)|(apply TW.ev; (· first | (apply Ev.add; (· exact rfl); (· exact rfl); (· omega); (· omega)) | (apply Ev.rem; (· exact rfl); (· exact rfl); (· decide)) | (apply Ev.indexArr; (· exact rfl); (· exact rfl); (· omega); (· omega))); (· exact rfl))|(apply TW.yes;iterate 2 exact rfl)|(apply TW.no;iterate 3 exact rfl)|apply TW.nil)
      apply LR.store_obj (v := .agg (MsgA.row ⟨l[i2].m, a1, c1⟩).toArray) (z := qB b first L'.length slots') (z' := qB b first L'.length (slots'.set ((first + L'.length) % 32) ⟨l[i2].m, a1, c1⟩))
      · exact rfl
      · exact rfl
      · (repeat (first | exact sH _ _ _ | apply sT))
      · exact rfl
      · exact put_slot _ (by omega) h32 (by rw [ht.1])
      · exact Asrt.dep_own _ _
      repeat'(first|(apply kp;iterate 2 exact rfl)|apply jJ|(apply jE;exact rfl)|(apply jp;exact rfl)|(apply jc;kernel_rfl)|((first|apply kf|apply kn|apply ke|apply kx|apply kc|apply kb);iterate 2 exact rfl)|((first|apply kz|apply ky);(·exact rfl);(·repeat(first|exact iO|exact iR rfl|apply iT));iterate 2 exact rfl)|(apply kg;iterate 2 exact rfl)|(apply kG;iterate 3 exact rfl)|(apply kB;(iterate 2 exact rfl);intro _)|(apply kA;exact rfl;intro _)|(apply kK;(iterate 4 exact rfl);intro _)|(apply kU;(iterate 2 exact rfl);(·repeat(first|exact sH _ _ _|apply sT));(first|exact nfL_eq rfl|exact rfl);exact rfl)|((first|apply kh|apply kl);(iterate 2 exact rfl);(first|decide|omega);exact rfl)|(apply addX;(iterate 2 exact rfl);(iterate 2(first|omega|(dsimp only;omega)));exact rfl)|((first|(apply kR;iterate 2 exact rfl)|(apply kQ;exact rfl));all_goals(intro hc;try simp only[hcs]at hc;try(exfalso;first|contradiction|omega))))
      apply At.again (i2 + 1, slots'.set ((first + L'.length) % 32) ⟨l[i2].m, a1, c1⟩, L' ++ [⟨l[i2].m, a1, c1⟩])
      · refine ⟨by show i2 + 1 ≤ _; omega, hq'.put (by omega) _, ?_⟩
        show (L' ++ [MsgA.mk l[i2].m a1 c1]).map MsgA.m = _
        rw [List.map_append, hL', List.take_succ_eq_append_getElem hlt2, List.map_append, List.append_assoc]
        rfl
      · (repeat (first | exact Out.refl _ _ | exact Out.mix | (apply Out.upd; (· exact rfl)) | (apply Out.updL; (· exact rfl)) | (apply Out.mixs; (· exact rfl))))
      · exact ⟨rfl, trivial⟩
      · intro w' hw'
        have h2 := St.bun_snoc (f := MsgA.body) (x := ⟨l[i2].m, a1, c1⟩) (l := L') MsgA.dep MsgA.ex (front (front hw' 3 rfl rfl) 1 rfl rfl)
        have h3 := (front h2 2 rfl rfl).sub (L' := [qB b first (L'.length + 1) (slots'.set ((first + L'.length) % 32) ⟨l[i2].m, a1, c1⟩), bunB (L' ++ [⟨l[i2].m, a1, c1⟩]), rdA (some ⟨ba, oa, none⟩) (l.flatMap MsgA.row)]) (by repeat (first | exact List.Sublist.refl _ | apply List.Sublist.cons_cons | apply List.Sublist.cons))
        show St w F [qB b first (L' ++ [MsgA.mk l[i2].m a1 c1]).length (slots'.set ((first + L'.length) % 32) ⟨l[i2].m, a1, c1⟩), bunB (L' ++ [⟨l[i2].m, a1, c1⟩]), rdA (some ⟨ba, oa, none⟩) (l.flatMap MsgA.row)] w'
        rw [show (L' ++ [MsgA.mk l[i2].m a1 c1]).length = L'.length + 1 by simp]
        exact h3
      · show l.length - (i2 + 1) < l.length - i2
        omega
    · repeat'(first|(apply kp;iterate 2 exact rfl)|apply jJ|(apply jE;exact rfl)|(apply jp;exact rfl)|(apply jc;kernel_rfl)|((first|apply kf|apply kn|apply ke|apply kx|apply kc|apply kb);iterate 2 exact rfl)|((first|apply kz|apply ky);(·exact rfl);(·repeat(first|exact iO|exact iR rfl|apply iT));iterate 2 exact rfl)|(apply kg;iterate 2 exact rfl)|(apply kG;iterate 3 exact rfl)|(apply kB;(iterate 2 exact rfl);intro _)|(apply kA;exact rfl;intro _)|(apply kK;(iterate 4 exact rfl);intro _)|(apply kU;(iterate 2 exact rfl);(·repeat(first|exact sH _ _ _|apply sT));(first|exact nfL_eq rfl|exact rfl);exact rfl)|((first|apply kh|apply kl);(iterate 2 exact rfl);(first|decide|omega);exact rfl)|((first|(apply kR;iterate 2 exact rfl)|(apply kQ;exact rfl));all_goals(intro hc;try simp only[hcs]at hc;try(exfalso;first|contradiction|omega))))
      (apply ret1; (· exact rfl); intro w' hS)
      rw [List.take_of_length_le (by omega)] at hL'
      exact ⟨slots', L', rfl, hq', by simpa using hL', fin slots' L' _ w' hS⟩
end Go.Proofs.Ytomlgnncncjmaaa

namespace Go.Proofs.Ytomlgnncncjmaaa
open Go.Hb
attribute [local irreducible] LR CW At Ev thn blk finK noG again CallsTo DW QL dnext TW DP
set_option linter.unusedSimpArgs false
set_option linter.unusedVariables false
set_option maxRecDepth 100000

def textN (n : Int) : Msg := ⟨1, 1 + andI .i64 n 7, 1, andI .i64 n 65535, 0, 1, 1, false, 0, 0, 0, 0, [IntKind.wrap .u8 n]⟩
theorem c51 (n : Int) (w : World) (h7 : 0 ≤ andI .i64 n 7 ∧ andI .i64 n 7 ≤ 7) : CallsTo Try.prog 51 [.int .i64 n] w fun v w' => ∃ a c, v = (textN n).val a c ∧ NewSl w w' (.slice a (textN n).body.length c) 5 1 (textN n).body.length (bv (textN n).body) := by
  refine go_in (n := 12) (St.refl _ NoF) Try.func51 rfl rfl ?_
  repeat'(first|(apply kp;iterate 2 exact rfl)|apply jJ|(apply jE;exact rfl)|(apply jp;exact rfl)|(apply jc;kernel_rfl)|((first|apply kf|apply kn|apply ke|apply kx|apply kc|apply kb);iterate 2 exact rfl)|((first|apply kz|apply ky);(·exact rfl);(·repeat(first|exact iO|exact iR rfl|apply iT));iterate 2 exact rfl)|(apply kg;iterate 2 exact rfl)|(apply kG;iterate 3 exact rfl)|(apply kB;(iterate 2 exact rfl);intro _)|(apply kA;exact rfl;intro _)|(apply kK;(iterate 4 exact rfl);intro _)|(apply kU;(iterate 2 exact rfl);(·repeat(first|exact sH _ _ _|apply sT));(first|exact nfL_eq rfl|exact rfl);exact rfl)|((first|apply kh|apply kl);(iterate 2 exact rfl);(first|decide|omega);exact rfl)|(apply addX;(iterate 2 exact rfl);(iterate 2(first|omega|(dsimp only;omega)));exact rfl)|((first|(apply kR;iterate 2 exact rfl)|(apply kQ;exact rfl));all_goals(intro hc;try simp only[hcs]at hc;try(exfalso;first|contradiction|omega))))
  (apply ret1c; (· exact rfl); (· exact inferInstance); (· exact rfl); (· (repeat (first | exact List.Mem.head _ | apply List.Mem.tail))); (· exact rfl); intro w' hS)
  exact ⟨_, 1, rfl, (hS.own_osl (k := 1) (sz := 1) (E := 5) (cs := [.int .u8 (IntKind.wrap .u8 n)]) (Sel.head _ _ _) rfl (by unfold maxLen; omega)).toNew (List.Mem.head _)⟩
theorem and7 : ∀ n : Nat, n < 200 → 0 ≤ andI .i64 (n : Int) 7 ∧ andI .i64 (n : Int) 7 ≤ 7 := by decide +kernel
theorem check_text : ∀ n : Nat, n < 200 → check (textN (n : Int)) = 0 := by decide +kernel
def textsL (from_ n : Nat) : List Msg := (List.range n).map fun i => textN ((from_ + i : Nat) : Int)
theorem textsL_snoc (from_ n : Nat) : textsL from_ (n + 1) = textsL from_ n ++ [textN ((from_ + n : Nat) : Int)] := by
  unfold textsL; rw [List.range_succ, List.map_append]; rfl
abbrev mS (a : Option Addr) (c : Nat) (l : List MsgA) : Asrt := osl (.slice a l.length c) 28 13 l.length (l.flatMap MsgA.row)
theorem row_one (l : List MsgA) : (l.flatMap MsgA.row).all Value.oneCell' = true := by
  rw [List.all_eq_true]
  intro v hv
  obtain ⟨x, hx, hv⟩ := List.mem_flatMap.1 hv
  have : x.row.all Value.oneCell' = true := by simp [MsgA.row, Msg.cells, Value.oneCell']
  exact List.all_eq_true.1 this v hv
theorem mS_snoc (a : Option Addr) (c : Nat) (l : List MsgA) (x : MsgA) : osl (.slice a (l.length + 1) c) 28 13 (l.length + 1) (l.flatMap MsgA.row ++ x.row) = mS a c (l ++ [x]) := by simp [mS]
set_option maxHeartbeats 1000000 in
theorem c52 (from_ n : Nat) (w : World) (h : from_ + n ≤ 200) : CallsTo Try.prog 52 [.int .i64 (from_ : Int), .int .i64 (n : Int)] w fun v w' => ∃ a c l, v = .slice a l.length c ∧ l.map MsgA.m = textsL from_ n ∧ St w NoF [mS a c l, bunB l] w' := by
  refine go_in (n := 20) (St.refl _ NoF) Try.func52 rfl rfl ?_
  repeat'(first|(apply kp;iterate 2 exact rfl)|apply jJ|(apply jE;exact rfl)|(apply jp;exact rfl)|(apply jc;kernel_rfl)|((first|apply kf|apply kn|apply ke|apply kx|apply kc|apply kb);iterate 2 exact rfl)|((first|apply kz|apply ky);(·exact rfl);(·repeat(first|exact iO|exact iR rfl|apply iT));iterate 2 exact rfl)|(apply kg;iterate 2 exact rfl)|(apply kG;iterate 3 exact rfl)|(apply kB;(iterate 2 exact rfl);intro _)|(apply kA;exact rfl;intro _)|(apply kK;(iterate 4 exact rfl);intro _)|(apply kU;(iterate 2 exact rfl);(·repeat(first|exact sH _ _ _|apply sT));(first|exact nfL_eq rfl|exact rfl);exact rfl)|((first|apply kh|apply kl);(iterate 2 exact rfl);(first|decide|omega);exact rfl)|((first|(apply kR;iterate 2 exact rfl)|(apply kQ;exact rfl));all_goals(intro hc;try simp only[hcs]at hc;try(exfalso;first|contradiction|omega))))
  apply CW.loop [5, 6, 7, 8, 9, 10, 11, 12, 13, 14, 15, 16, 17, 18] (fun s : Nat × Option Addr × Nat × List MsgA => s.1 ≤ n ∧ s.2.2.2.map MsgA.m = textsL from_ s.1) (fun s => [(6, Value.int .i64 (s.1 : Int)), (5, .slice s.2.1 s.2.2.2.length s.2.2.1)])
    (fun s => St w NoF [mS s.2.1 s.2.2.1 s.2.2.2, bunB s.2.2.2]) (fun s => n - s.1)
  · exact fun w' hw' => ⟨(0, none, 0, []), ⟨by simp, rfl⟩, ⟨rfl, rfl, trivial⟩, (hw'.bun_nil MsgA.dep).nilsl 28 13⟩
  rintro ⟨i, a, c, l⟩ g ⟨hi, hl⟩
  simp only at hi hl ⊢
  have hlen : l.length = i := by have := congrArg List.length hl; simpa [textsL] using this
  by_cases hlt : i < n
  · have e1 : ((from_ + i : Nat) : Int) = (from_ : Int) + (i : Int) := rfl
    have h7 := and7 (from_ + i) (by omega)
    rw [e1] at h7
    repeat'(first|(apply kp;iterate 2 exact rfl)|apply jJ|(apply jE;exact rfl)|(apply jp;exact rfl)|(apply jc;kernel_rfl)|((first|apply kf|apply kn|apply ke|apply kx|apply kc|apply kb);iterate 2 exact rfl)|((first|apply kz|apply ky);(·exact rfl);(·repeat(first|exact iO|exact iR rfl|apply iT));iterate 2 exact rfl)|(apply kg;iterate 2 exact rfl)|(apply kG;iterate 3 exact rfl)|(apply kB;(iterate 2 exact rfl);intro _)|(apply kA;exact rfl;intro _)|(apply kK;(iterate 4 exact rfl);intro _)|(apply kU;(iterate 2 exact rfl);(·repeat(first|exact sH _ _ _|apply sT));(first|exact nfL_eq rfl|exact rfl);exact rfl)|((first|apply kh|apply kl);(iterate 2 exact rfl);(first|decide|omega);exact rfl)|(apply addX;(iterate 2 exact rfl);(iterate 2(first|omega|(dsimp only;omega)));exact rfl)|((first|(apply kR;iterate 2 exact rfl)|(apply kQ;exact rfl));all_goals(intro hc;try simp only[hcs]at hc;try(exfalso;first|contradiction|omega))))
    apply LR.call
    · exact rfl
    intro w1 h1
    refine (c51 ((from_ : Int) + (i : Int)) w1 h7).mono ?_
    rintro v w2 ⟨a1, c1, rfl, hn1⟩
    refine LR.back (h1.newSl hn1) ?_
    clear hn1 h1
    repeat'(first|(apply kp;iterate 2 exact rfl)|apply jJ|(apply jE;exact rfl)|(apply jp;exact rfl)|(apply jc;kernel_rfl)|((first|apply kf|apply kn|apply ke|apply kx|apply kc|apply kb);iterate 2 exact rfl)|((first|apply kz|apply ky);(·exact rfl);(·repeat(first|exact iO|exact iR rfl|apply iT));iterate 2 exact rfl)|(apply kg;iterate 2 exact rfl)|(apply kG;iterate 3 exact rfl)|(apply kB;(iterate 2 exact rfl);intro _)|(apply kA;exact rfl;intro _)|(apply kK;(iterate 4 exact rfl);intro _)|(apply kU;(iterate 2 exact rfl);(·repeat(first|exact sH _ _ _|apply sT));(first|exact nfL_eq rfl|exact rfl);exact rfl)|((first|apply kh|apply kl);(iterate 2 exact rfl);(first|decide|omega);exact rfl)|((first|(apply kR;iterate 2 exact rfl)|(apply kQ;exact rfl));all_goals(intro hc;try simp only[hcs]at hc;try(exfalso;first|contradiction|omega))))
    refine LR.append (xs := l.flatMap MsgA.row) (news := MsgA.row ⟨textN ((from_ : Int) + (i : Int)), a1, c1⟩) (m := 1) rfl rfl (fun a' c' => sT _ (sT _ (sH _ _ _))) (fun w' hw' => hw'.rd_of_blk (mH _ _)) (fun hx => by cases hx) rfl (by simp [MsgA.row, Msg.cells, Value.oneCell']) (by omega) (by unfold maxLen; omega) rfl ?_
    intro ay cy
    repeat'(first|(apply kp;iterate 2 exact rfl)|apply jJ|(apply jE;exact rfl)|(apply jp;exact rfl)|(apply jc;kernel_rfl)|((first|apply kf|apply kn|apply ke|apply kx|apply kc|apply kb);iterate 2 exact rfl)|((first|apply kz|apply ky);(·exact rfl);(·repeat(first|exact iO|exact iR rfl|apply iT));iterate 2 exact rfl)|(apply kg;iterate 2 exact rfl)|(apply kG;iterate 3 exact rfl)|(apply kB;(iterate 2 exact rfl);intro _)|(apply kA;exact rfl;intro _)|(apply kK;(iterate 4 exact rfl);intro _)|(apply kU;(iterate 2 exact rfl);(·repeat(first|exact sH _ _ _|apply sT));(first|exact nfL_eq rfl|exact rfl);exact rfl)|((first|apply kh|apply kl);(iterate 2 exact rfl);(first|decide|omega);exact rfl)|(apply addX;(iterate 2 exact rfl);(iterate 2(first|omega|(dsimp only;omega)));exact rfl)|((first|(apply kR;iterate 2 exact rfl)|(apply kQ;exact rfl));all_goals(intro hc;try simp only[hcs]at hc;try(exfalso;first|contradiction|omega))))
    apply At.again (i + 1, ay, cy, l ++ [⟨textN ((from_ : Int) + (i : Int)), a1, c1⟩])
    · refine ⟨by show i + 1 ≤ n; omega, ?_⟩
      show (l ++ [MsgA.mk (textN ((from_ : Int) + (i : Int))) a1 c1]).map MsgA.m = textsL from_ (i + 1)
      rw [textsL_snoc, List.map_append, hl]
      rfl
    · (repeat (first | exact Out.refl _ _ | exact Out.mix | (apply Out.upd; (· exact rfl)) | (apply Out.updL; (· exact rfl)) | (apply Out.mixs; (· exact rfl))))
    · exact ⟨rfl, by show Value.slice ay (l.length + 1) cy = .slice ay (l ++ [MsgA.mk (textN ((from_ : Int) + (i : Int))) a1 c1]).length cy; simp, trivial⟩
    · intro w' hw'
      have h2 := St.bun_snoc (f := MsgA.body) (x := ⟨textN ((from_ : Int) + (i : Int)), a1, c1⟩) (l := l) MsgA.dep MsgA.ex (front (front hw' 3 rfl rfl) 2 rfl rfl)
      rw [mS_snoc] at h2
      exact (front h2 2 rfl rfl).sub (by repeat (first | exact List.Sublist.refl _ | apply List.Sublist.cons_cons | apply List.Sublist.cons))
    · show n - (i + 1) < n - i
      omega
  · repeat'(first|(apply kp;iterate 2 exact rfl)|apply jJ|(apply jE;exact rfl)|(apply jp;exact rfl)|(apply jc;kernel_rfl)|((first|apply kf|apply kn|apply ke|apply kx|apply kc|apply kb);iterate 2 exact rfl)|((first|apply kz|apply ky);(·exact rfl);(·repeat(first|exact iO|exact iR rfl|apply iT));iterate 2 exact rfl)|(apply kg;iterate 2 exact rfl)|(apply kG;iterate 3 exact rfl)|(apply kB;(iterate 2 exact rfl);intro _)|(apply kA;exact rfl;intro _)|(apply kK;(iterate 4 exact rfl);intro _)|(apply kU;(iterate 2 exact rfl);(·repeat(first|exact sH _ _ _|apply sT));(first|exact nfL_eq rfl|exact rfl);exact rfl)|((first|apply kh|apply kl);(iterate 2 exact rfl);(first|decide|omega);exact rfl)|((first|(apply kR;iterate 2 exact rfl)|(apply kQ;exact rfl));all_goals(intro hc;try simp only[hcs]at hc;try(exfalso;first|contradiction|omega))))
    (apply ret1; (· exact rfl); intro w' hS)
    have : i = n := by omega
    subst this
    exact ⟨a, c, l, rfl, hl, hS⟩
theorem MR.old {w w1 : World} {L : List Asrt} {x : MsgA} (h : MR w x) (h1 : St w NoF L w1) : MR w1 x := ⟨h1.oldRd h.hr, h.hz, h.hm, h.hb⟩
/-- What a list of messages that one owns lends to a call. -/
theorem bun_MR {w : World} {l : List MsgA} (h : (bunB l).holds w) (hb : ∀ x ∈ l, Byt x.m.body ∧ x.m.body.length ≤ 140737488355328) : ∀ x ∈ l, MR w x := by
  intro x hx
  have hh : x.body.holds w := h.1 x hx
  exact ⟨ownsRow_rd hh, fun e => (ownsRow_some hh e).2, (hb x hx).2, (hb x hx).1⟩
theorem bun_foot {l : List MsgA} {x : MsgA} (hx : x ∈ l) {k : Nat} (h : rdFoot x.a (bv x.m.body) k) : (bunB l).foot k := ⟨x, hx, St.osl_foot h⟩
theorem qputE_ok {n : Nat} {l : List MsgA} (h : ∀ x ∈ l, check x.m = 0) (hl : n + l.length ≤ 32) : qputE n l = 0 := by
  unfold qputE
  rw [if_neg (by rw [List.any_eq_true]; rintro ⟨x, hx, h2⟩; have := h x hx; simp [this] at h2), if_neg (by omega)]
theorem qputE_full {n : Nat} {l : List MsgA} (h : ∀ x ∈ l, check x.m = 0) (hl : 32 < n + l.length) (hn : n ≤ 32) : qputE n l = 7 := by
  unfold qputE
  rw [if_neg (by rw [List.any_eq_true]; rintro ⟨x, hx, h2⟩; have := h x hx; simp [this] at h2), if_pos (by omega)]
theorem byt_text : ∀ n : Nat, n < 200 → 0 ≤ IntKind.wrap .u8 (n : Int) ∧ IntKind.wrap .u8 (n : Int) < 256 := by decide +kernel
theorem textsL_ok {from_ n : Nat} {l : List MsgA} (h : from_ + n ≤ 200) (hl : l.map MsgA.m = textsL from_ n) : ∀ x ∈ l, check x.m = 0 ∧ Byt x.m.body ∧ x.m.body.length = 1 := by
  intro x hx
  have : x.m ∈ textsL from_ n := by rw [← hl]; exact List.mem_map.2 ⟨x, hx, rfl⟩
  obtain ⟨i, hi, he⟩ := List.mem_map.1 this
  rw [List.mem_range] at hi
  rw [← he]
  refine ⟨check_text _ (by omega), ?_, rfl⟩
  intro b hb
  simp only [textN, List.mem_singleton] at hb
  subst hb
  exact byt_text _ (by omega)
theorem qO_rd {b first : Nat} {slots L : List MsgA} {w : World} (h : (qO b first slots L).holds w) : Rd w (some ⟨b, 0, none⟩) (qcells first L.length slots) := fun j v hj =>
  ⟨_, rfl, by rw [addr_add, cell_own (show w.heap[b]? = some (.cells (qcells first L.length slots).toArray 82 (0, 0)) from h.1)]; simpa using hj⟩
theorem put_lent {w0 w1 : World} {R : List Asrt} {b first : Nat} {slots L : List MsgA} {al : Option Addr} {cl : Nat} {l : List MsgA} (h1 : St w0 NoF (mS al cl l :: bunB l :: R) w1) (hqm : qO b first slots L ∈ R) (hq : QRep first slots L)
    (hb : ∀ x ∈ l, Byt x.m.body ∧ x.m.body.length ≤ 140737488355328) (hm : l.length ≤ 140737488355328) :
    CallsTo Try.prog 41 [.pointer (some ⟨b, 0, none⟩), .slice al l.length cl] w1 fun v w' => ∃ slots' L', v = .int .i64 (qputE L.length l) ∧ QRep first slots' L' ∧ L'.map MsgA.m = L.map MsgA.m ++ (if qputE L.length l = 0 then l.map MsgA.m else []) ∧ Step (qO b first slots L) (qO b first slots' L') w1 w' :=
  c41 b first slots L al cl l w1 (h1.holds _ (mT _ (mT _ hqm))) hq (ownsRow_rd h1.g0) (fun k hk => h1.apart (mT _ hqm) rfl k (St.osl_foot hk)) (bun_MR h1.g1 hb) (fun x hx k hk => h1.tail1.apart hqm rfl k (bun_foot hx hk)) hm
theorem take_own (b first : Nat) (slots L : List MsgA) (x : MsgA) (w : World) (h : (qO b first slots (x :: L)).holds w) (hq : QRep first slots (x :: L)) :
    CallsTo Try.prog 44 [.pointer (some ⟨b, 0, none⟩)] w fun v w' => v = .tuple [x.m.val x.a x.c, .int .i64 0].toArray ∧ ∃ slots', QRep ((first + 1) % 32) slots' L ∧ St w (qO b first slots (x :: L)).foot [qO b ((first + 1) % 32) slots' L, x.body] w' := by
  have hS0 := (St.one h (both_live h) (qO_dep b first slots (x :: L))).part (Asrt.dep_own _ _) (bun_dep MsgA.dep _)
  have hL := hq.hL
  refine (c44 b first (x :: L).length slots w hS0.g0 hq.h32 hq.hf (by simp) hL x hq.take.2).mono ?_
  rintro v w' ⟨rfl, st⟩
  refine ⟨rfl, _, hq.take.1, ?_⟩
  have h1 := hS0.one' st rfl (Asrt.dep_own _ _) (sH _ _ _)
  have h2 := (front h1 1 rfl rfl).bun_head MsgA.dep
  have h3 := (front (front h2 1 rfl rfl) 2 rfl rfl).cast (L' := [qB b ((first + 1) % 32) L.length (slots.set first zeroA), bunB L, x.body]) rfl
  exact h3.join rfl rfl
theorem zeroA_MR (w : World) : MR w zeroA := ⟨Rd.nil _ _, fun _ => rfl, by simp [zeroA, zeroMsg], by simp [zeroA, zeroMsg, Byt]⟩
theorem qputE_zero (n : Nat) : qputE n [zeroA] = 2 := by
  unfold qputE
  rw [if_pos]
  have : check zeroA.m = 2 := by kernel_rfl
  simp [this]
theorem excl2 {a : Option Addr} {c : Nat} {l : List MsgA} : ∀ x ∈ [mS a c l, bunB l], x.excl = true := by
  intro x hx; simp at hx; rcases hx with rfl | rfl <;> rfl
set_option maxHeartbeats 4000000 in
theorem c50 (w : World) : CallsTo Try.prog 50 [] w fun v w' => v = .bool true ∧ Grew w w' := by
  refine go_in (n := 55) (St.refl _ NoF) Try.func50 rfl rfl ?_
  repeat'(first|(apply kp;iterate 2 exact rfl)|apply jJ|(apply jE;exact rfl)|(apply jp;exact rfl)|(apply jc;kernel_rfl)|((first|apply kf|apply kn|apply ke|apply kx|apply kc|apply kb);iterate 2 exact rfl)|((first|apply kz|apply ky);(·exact rfl);(·repeat(first|exact iO|exact iR rfl|apply iT));iterate 2 exact rfl)|(apply kg;iterate 2 exact rfl)|(apply kG;iterate 3 exact rfl)|(apply kB;(iterate 2 exact rfl);intro _)|(apply kA;exact rfl;intro _)|(apply kK;(iterate 4 exact rfl);intro _)|(apply kU;(iterate 2 exact rfl);(·repeat(first|exact sH _ _ _|apply sT));(first|exact nfL_eq rfl|exact rfl);exact rfl)|((first|apply kh|apply kl);(iterate 2 exact rfl);(first|decide|omega);exact rfl)|((first|(apply kR;iterate 2 exact rfl)|(apply kQ;exact rfl));all_goals(intro hc;try simp only[hcs]at hc;try(exfalso;first|contradiction|omega))))
  apply LR.call
  · exact rfl
  intro w1 h1
  refine (c38 w1).mono ?_
  rintro v w2 ⟨b, rfl, hn⟩
  have h2 : St w NoF [qO b 0 (List.replicate 32 zeroA) []] w2 := ((h1.got hn (Asrt.dep_own _ _)).bun_nil MsgA.dep).swap.join rfl rfl
  refine LR.back h2 ?_
  clear h2 h1 hn
  repeat'(first|(apply kp;iterate 2 exact rfl)|apply jJ|(apply jE;exact rfl)|(apply jp;exact rfl)|(apply jc;kernel_rfl)|((first|apply kf|apply kn|apply ke|apply kx|apply kc|apply kb);iterate 2 exact rfl)|((first|apply kz|apply ky);(·exact rfl);(·repeat(first|exact iO|exact iR rfl|apply iT));iterate 2 exact rfl)|(apply kg;iterate 2 exact rfl)|(apply kG;iterate 3 exact rfl)|(apply kB;(iterate 2 exact rfl);intro _)|(apply kA;exact rfl;intro _)|(apply kK;(iterate 4 exact rfl);intro _)|(apply kU;(iterate 2 exact rfl);(·repeat(first|exact sH _ _ _|apply sT));(first|exact nfL_eq rfl|exact rfl);exact rfl)|((first|apply kh|apply kl);(iterate 2 exact rfl);(first|decide|omega);exact rfl)|((first|(apply kR;iterate 2 exact rfl)|(apply kQ;exact rfl));all_goals(intro hc;try simp only[hcs]at hc;try(exfalso;first|contradiction|omega))))
  apply LR.call
  · exact rfl
  intro w1 h1
  refine (c52 5 2 w1 (by omega)).mono ?_
  rintro v w2 ⟨a1, c1, l1, rfl, hl1, st⟩
  refine LR.back (h1.pushL st excl2) ?_
  clear h1 st
  have n1 : l1.length = 2 := by have := congrArg List.length hl1; simpa [textsL] using this
  have k1 := textsL_ok (by omega) hl1
  repeat'(first|(apply kp;iterate 2 exact rfl)|apply jJ|(apply jE;exact rfl)|(apply jp;exact rfl)|(apply jc;kernel_rfl)|((first|apply kf|apply kn|apply ke|apply kx|apply kc|apply kb);iterate 2 exact rfl)|((first|apply kz|apply ky);(·exact rfl);(·repeat(first|exact iO|exact iR rfl|apply iT));iterate 2 exact rfl)|(apply kg;iterate 2 exact rfl)|(apply kG;iterate 3 exact rfl)|(apply kB;(iterate 2 exact rfl);intro _)|(apply kA;exact rfl;intro _)|(apply kK;(iterate 4 exact rfl);intro _)|(apply kU;(iterate 2 exact rfl);(·repeat(first|exact sH _ _ _|apply sT));(first|exact nfL_eq rfl|exact rfl);exact rfl)|((first|apply kh|apply kl);(iterate 2 exact rfl);(first|decide|omega);exact rfl)|((first|(apply kR;iterate 2 exact rfl)|(apply kQ;exact rfl));all_goals(intro hc;try simp only[hcs]at hc;try(exfalso;first|contradiction|omega))))
  apply LR.call
  · exact rfl
  intro w1 h1
  have hh := put_lent (al := a1) (cl := c1) (l := l1) h1 (mH _ _) QRep.start (fun x hx => ⟨(k1 x hx).2.1, by rw [(k1 x hx).2.2]; omega⟩) (by omega)
  rw [qputE_ok (n := ([] : List MsgA).length) (fun x hx => (k1 x hx).1) (by simp; omega)] at hh
  refine CallsTo.mono hh ?_
  clear hh
  rintro v w2 ⟨s1, L1, rfl, r1, m1, st⟩
  have h2 := h1.one' st rfl (qO_dep _ _ _ _) (by (repeat (first | exact sH _ _ _ | apply sT)))
  refine LR.back (h2.sub (L' := [qO b 0 s1 L1]) (by repeat (first | exact List.Sublist.refl _ | apply List.Sublist.cons_cons | apply List.Sublist.cons))) ?_
  clear h2 h1 st
  repeat'(first|(apply kp;iterate 2 exact rfl)|apply jJ|(apply jE;exact rfl)|(apply jp;exact rfl)|(apply jc;kernel_rfl)|((first|apply kf|apply kn|apply ke|apply kx|apply kc|apply kb);iterate 2 exact rfl)|((first|apply kz|apply ky);(·exact rfl);(·repeat(first|exact iO|exact iR rfl|apply iT));iterate 2 exact rfl)|(apply kg;iterate 2 exact rfl)|(apply kG;iterate 3 exact rfl)|(apply kB;(iterate 2 exact rfl);intro _)|(apply kA;exact rfl;intro _)|(apply kK;(iterate 4 exact rfl);intro _)|(apply kU;(iterate 2 exact rfl);(·repeat(first|exact sH _ _ _|apply sT));(first|exact nfL_eq rfl|exact rfl);exact rfl)|((first|apply kh|apply kl);(iterate 2 exact rfl);(first|decide|omega);exact rfl)|((first|(apply kR;iterate 2 exact rfl)|(apply kQ;exact rfl));all_goals(intro hc;try simp only[hcs]at hc;try(exfalso;first|contradiction|omega))))
  have q1 : L1.length = 2 := by have := congrArg List.length m1; simp at this; omega
  apply LR.call
  · exact rfl
  intro w1 h1
  refine (c52 0 31 w1 (by omega)).mono ?_
  rintro v w2 ⟨a2, c2, l2, rfl, hl2, st⟩
  refine LR.back (h1.pushL st excl2) ?_
  clear h1 st
  have n2 : l2.length = 31 := by have := congrArg List.length hl2; simpa [textsL] using this
  have k2 := textsL_ok (by omega) hl2
  repeat'(first|(apply kp;iterate 2 exact rfl)|apply jJ|(apply jE;exact rfl)|(apply jp;exact rfl)|(apply jc;kernel_rfl)|((first|apply kf|apply kn|apply ke|apply kx|apply kc|apply kb);iterate 2 exact rfl)|((first|apply kz|apply ky);(·exact rfl);(·repeat(first|exact iO|exact iR rfl|apply iT));iterate 2 exact rfl)|(apply kg;iterate 2 exact rfl)|(apply kG;iterate 3 exact rfl)|(apply kB;(iterate 2 exact rfl);intro _)|(apply kA;exact rfl;intro _)|(apply kK;(iterate 4 exact rfl);intro _)|(apply kU;(iterate 2 exact rfl);(·repeat(first|exact sH _ _ _|apply sT));(first|exact nfL_eq rfl|exact rfl);exact rfl)|((first|apply kh|apply kl);(iterate 2 exact rfl);(first|decide|omega);exact rfl)|((first|(apply kR;iterate 2 exact rfl)|(apply kQ;exact rfl));all_goals(intro hc;try simp only[hcs]at hc;try(exfalso;first|contradiction|omega))))
  apply LR.call
  · exact rfl
  intro w1 h1
  have hh := put_lent (al := a2) (cl := c2) (l := l2) h1 (mH _ _) r1 (fun x hx => ⟨(k2 x hx).2.1, by rw [(k2 x hx).2.2]; omega⟩) (by omega)
  rw [qputE_full (n := L1.length) (fun x hx => (k2 x hx).1) (by omega) (by omega)] at hh
  refine CallsTo.mono hh ?_
  clear hh
  rintro v w2 ⟨s2, L2, rfl, r2, m2, st⟩
  have h2 := h1.one' st rfl (qO_dep _ _ _ _) (by (repeat (first | exact sH _ _ _ | apply sT)))
  refine LR.back (h2.sub (L' := [qO b 0 s2 L2]) (by repeat (first | exact List.Sublist.refl _ | apply List.Sublist.cons_cons | apply List.Sublist.cons))) ?_
  clear h2 h1 st
  repeat'(first|(apply kp;iterate 2 exact rfl)|apply jJ|(apply jE;exact rfl)|(apply jp;exact rfl)|(apply jc;kernel_rfl)|((first|apply kf|apply kn|apply ke|apply kx|apply kc|apply kb);iterate 2 exact rfl)|((first|apply kz|apply ky);(·exact rfl);(·repeat(first|exact iO|exact iR rfl|apply iT));iterate 2 exact rfl)|(apply kg;iterate 2 exact rfl)|(apply kG;iterate 3 exact rfl)|(apply kB;(iterate 2 exact rfl);intro _)|(apply kA;exact rfl;intro _)|(apply kK;(iterate 4 exact rfl);intro _)|(apply kU;(iterate 2 exact rfl);(·repeat(first|exact sH _ _ _|apply sT));(first|exact nfL_eq rfl|exact rfl);exact rfl)|((first|apply kh|apply kl);(iterate 2 exact rfl);(first|decide|omega);exact rfl)|((first|(apply kR;iterate 2 exact rfl)|(apply kQ;exact rfl));all_goals(intro hc;try simp only[hcs]at hc;try(exfalso;first|contradiction|omega))))
  have q2 : L2.length = 2 := by have := congrArg List.length m2; simp at this; omega
  apply LR.call
  · exact rfl
  intro w1 h1
  refine (c52 7 30 w1 (by omega)).mono ?_
  rintro v w2 ⟨a3, c3, l3, rfl, hl3, st⟩
  refine LR.back (h1.pushL st excl2) ?_
  clear h1 st
  have n3 : l3.length = 30 := by have := congrArg List.length hl3; simpa [textsL] using this
  have k3 := textsL_ok (by omega) hl3
  repeat'(first|(apply kp;iterate 2 exact rfl)|apply jJ|(apply jE;exact rfl)|(apply jp;exact rfl)|(apply jc;kernel_rfl)|((first|apply kf|apply kn|apply ke|apply kx|apply kc|apply kb);iterate 2 exact rfl)|((first|apply kz|apply ky);(·exact rfl);(·repeat(first|exact iO|exact iR rfl|apply iT));iterate 2 exact rfl)|(apply kg;iterate 2 exact rfl)|(apply kG;iterate 3 exact rfl)|(apply kB;(iterate 2 exact rfl);intro _)|(apply kA;exact rfl;intro _)|(apply kK;(iterate 4 exact rfl);intro _)|(apply kU;(iterate 2 exact rfl);(·repeat(first|exact sH _ _ _|apply sT));(first|exact nfL_eq rfl|exact rfl);exact rfl)|((first|apply kh|apply kl);(iterate 2 exact rfl);(first|decide|omega);exact rfl)|((first|(apply kR;iterate 2 exact rfl)|(apply kQ;exact rfl));all_goals(intro hc;try simp only[hcs]at hc;try(exfalso;first|contradiction|omega))))
  apply LR.call
  · exact rfl
  intro w1 h1
  have hh := put_lent (al := a3) (cl := c3) (l := l3) h1 (mH _ _) r2 (fun x hx => ⟨(k3 x hx).2.1, by rw [(k3 x hx).2.2]; omega⟩) (by omega)
  rw [qputE_ok (n := L2.length) (fun x hx => (k3 x hx).1) (by omega)] at hh
  refine CallsTo.mono hh ?_
  clear hh
  rintro v w2 ⟨s3, L3, rfl, r3, m3, st⟩
  have h2 := h1.one' st rfl (qO_dep _ _ _ _) (by (repeat (first | exact sH _ _ _ | apply sT)))
  refine LR.back (h2.sub (L' := [qO b 0 s3 L3]) (by repeat (first | exact List.Sublist.refl _ | apply List.Sublist.cons_cons | apply List.Sublist.cons))) ?_
  clear h2 h1 st
  have q3 : L3.length = 32 := by have := congrArg List.length m3; simp at this; omega
  have m4 : L3.map MsgA.m = textsL 5 2 ++ textsL 7 30 := by
    simp only [if_true, show ¬ ((7 : Int) = 0) by omega, if_false, List.append_nil, List.map_nil, List.nil_append] at m1 m2 m3
    rw [m3, m2, m1, hl1, hl3]
  obtain ⟨x, L4, rfl⟩ : ∃ x L4, L3 = x :: L4 := by cases L3 with | nil => simp at q3 | cons x r => exact ⟨x, r, rfl⟩
  have mx : x.m = textN 5 := Option.some.inj (congrArg List.head? m4)
  have rdQ : ∀ w', (qO b 0 s3 (x :: L4)).holds w' → Rd w' (some ⟨b, 0, none⟩) (qcells 0 32 s3) := fun w' h => by have := qO_rd h; rw [q3] at this; exact this
  repeat'(first|(apply kp;iterate 2 exact rfl)|apply jJ|(apply jE;exact rfl)|(apply jp;exact rfl)|(apply jc;kernel_rfl)|((first|apply kf|apply kn|apply ke|apply kx|apply kc|apply kb);iterate 2 exact rfl)|((first|apply kz|apply ky);(·exact rfl);(·repeat(first|exact iO|exact iR rfl|apply iT));iterate 2 exact rfl)|(apply kg;iterate 2 exact rfl)|(apply kG;iterate 3 exact rfl)|(apply kB;(iterate 2 exact rfl);intro _)|(apply kA;exact rfl;intro _)|(apply kK;(iterate 4 exact rfl);intro _)|(apply kU;(iterate 2 exact rfl);(·repeat(first|exact sH _ _ _|apply sT));(first|exact nfL_eq rfl|exact rfl);exact rfl)|((first|apply kh|apply kl);(iterate 2 exact rfl);(first|decide|omega);exact rfl)|(apply kq; (· exact rfl); (· intro w1 h1; first | exact CallsTo.q (c46 b 0 32 s3 w1 (rdQ w1 (h1.holds _ (by (repeat (first | exact mH _ _ | apply mT)))))) h1 | exact CallsTo.q (c48 b 0 32 s3 w1 (rdQ w1 (h1.holds _ (by (repeat (first | exact mH _ _ | apply mT))))) (by omega)) h1))|((first|(apply kR;iterate 2 exact rfl)|(apply kQ;exact rfl));all_goals(intro hc;try simp only[hcs]at hc;try(exfalso;first|contradiction|omega))))
  apply LR.call
  · exact rfl
  intro w1 h1
  refine (take_own b 0 s3 L4 x w1 (h1.holds _ (by (repeat (first | exact mH _ _ | apply mT)))) r3).mono ?_
  rintro v w2 ⟨rfl, s4, r4, st⟩
  have q4 : L4.length = 31 := by simp at q3; omega
  have h2 := h1.two st rfl rfl rfl (by (repeat (first | exact sH _ _ _ | apply sT)))
  refine LR.back h2 ?_
  clear h2 h1 st
  have rdQ4 : ∀ w', (qO b ((0 + 1) % 32) s4 L4).holds w' → Rd w' (some ⟨b, 0, none⟩) (qcells ((0 + 1) % 32) 31 s4) := fun w' h => by have := qO_rd h; rw [q4] at this; exact this
  have hxl : x.m.body.length ≤ 140737488355328 := by rw [mx]; simp [textN]
  repeat'(first|(apply CW.reg_held (St w NoF [.own _ (.cells (x.m.cells x.a x.c).toArray 28 (0, 0))]))|(apply kp;iterate 2 exact rfl)|apply jJ|(apply jE;exact rfl)|(apply jp;exact rfl)|(apply jc;kernel_rfl)|((first|apply kf|apply kn|apply ke|apply kx|apply kc|apply kb);iterate 2 exact rfl)|((first|apply kz|apply ky);(·exact rfl);(·repeat(first|exact iO|exact iR rfl|apply iT));iterate 2 exact rfl)|(apply kg;iterate 2 exact rfl)|(apply kG;iterate 3 exact rfl)|(apply kB;(iterate 2 exact rfl);intro _)|(apply kA;exact rfl;intro _)|(apply kK;(iterate 4 exact rfl);intro _)|(apply kU;(iterate 2 exact rfl);(·repeat(first|exact sH _ _ _|apply sT));(first|exact nfL_eq rfl|exact rfl);exact rfl)|((first|apply kh|apply kl);(iterate 2 exact rfl);(first|decide|omega);exact rfl)|((first|(apply kR;iterate 2 exact rfl)|(apply kQ;exact rfl));all_goals(intro hc;try simp only[hcs]at hc;try(exfalso;first|contradiction|omega))))
  all_goals (
    apply DW.quiet [0, 1, 2, 3]
    · decide +kernel
    · first | exact fun _ h => h | exact fun _ h => St.sub h (by repeat (first | exact List.Sublist.refl _ | apply List.Sublist.cons_cons | apply List.Sublist.cons))
    repeat'(first|(apply yp;iterate 3 exact rfl)|(apply QL.ev;(·exact rfl);(·first|((first|apply Ez|apply Ey);(·exact rfl);(·repeat(first|exact iO|exact iR rfl|apply iT));exact rfl)|((first|apply Ev.fieldAddr|apply Ev.len|apply EqOf.eq|apply EqOf.ne|apply Ev.conv|apply Ev.buildN);exact rfl)|((first|apply Ev.shr|apply Ev.shl);(iterate 2 exact rfl);first|decide|omega));·exact rfl)|(apply yq;iterate 5 exact rfl)|(apply QL.evg;(iterate 3 exact rfl);(·first|((first|apply Ez|apply Ey);(·exact rfl);(·repeat(first|exact iO|exact iR rfl|apply iT));exact rfl)|((first|apply Ev.fieldAddr|apply Ev.len|apply EqOf.eq|apply EqOf.ne|apply Ev.conv|apply Ev.buildN);exact rfl)|((first|apply Ev.shr|apply Ev.shl);(iterate 2 exact rfl);first|decide|omega));·exact rfl)|(apply yn;iterate 4 exact rfl)|((apply QL.split;iterate 3 exact rfl);all_goals(intro hc;try simp only[hcs]at hc;try(exfalso;first|contradiction|omega)))|apply QL.nil)
    all_goals (show DW _ _ _ _ _ _ _ _))
  all_goals (
    apply DW.loud 4
    · exact rfl
    · decide +kernel
    repeat'(first|(apply kg;iterate 2 exact rfl)|(apply kG;iterate 3 exact rfl)|apply kM|(apply kp;iterate 2 exact rfl)|((first|apply kz|apply ky);(·exact rfl);(·repeat(first|exact iO|exact iR rfl|apply iT));iterate 2 exact rfl)|(apply kK;(iterate 4 exact rfl);intro _)|(apply kU;(iterate 2 exact rfl);(·repeat(first|exact sH _ _ _|apply sT));(first|exact nfL_eq rfl|exact rfl);exact rfl)|(apply kB;(iterate 2 exact rfl);intro _)|(apply kA;exact rfl;intro _)|(apply LR.call; (· exact rfl); (intro w1 h1; refine (c51 5 w1 (by decide)).mono ?_; rintro v w2 ⟨at_, ct, rfl, hn1⟩; refine LR.back (h1.newSl hn1) ?_; clear hn1 h1; apply kM))|(apply kq; (· exact rfl); (· intro w1 h1; have hq := CallsTo.q (c20 x.m (textN 5) x.a at_ x.c ct w1 (h1.rd_of_own (by (repeat (first | exact mH _ _ | apply mT)))) (h1.rd_of_own (by (repeat (first | exact mH _ _ | apply mT)))) hxl) h1; rw [show sameB x.m (textN 5) = true by rw [mx]; exact sameB_self _] at hq; show CallsTo Try.prog 20 [x.m.val x.a x.c, (textN 5).val at_ ct] w1 _; exact hq))|(apply kq; (· exact rfl); (· intro w1 h1; exact CallsTo.q (c48 b _ 31 s4 w1 (rdQ4 w1 (h1.holds _ (by (repeat (first | exact mH _ _ | apply mT))))) (by omega)) h1))|(apply LR.call; (· exact rfl); (intro w1 h1; have hh := c41 b ((0 + 1) % 32) s4 L4 (some ⟨_, 0, none⟩) 1 [zeroA] w1 (h1.holds _ (by (repeat (first | exact mH _ _ | apply mT)))) r4 (h1.rd_of_blk (mH _ _)) (fun k hk => h1.apart (y := qO b ((0 + 1) % 32) s4 L4) (by (repeat (first | exact mH _ _ | apply mT))) rfl k (by obtain ⟨_, ad, e, rfl⟩ := hk; cases e; rfl)) (fun y hy => by simp at hy; subst hy; exact zeroA_MR w1) (fun y hy k hk => by simp at hy; subst hy; exact absurd rfl hk.1) (by simp); rw [qputE_zero] at hh; refine CallsTo.mono hh ?_; clear hh; rintro v w2 ⟨s5, L5, rfl, r5, m5, st⟩; have h2 := h1.one' st rfl (qO_dep _ _ _ _) (by (repeat (first | exact sH _ _ _ | apply sT))); refine LR.back h2 ?_; clear h2 h1 st; apply kM)))
    all_goals (refine At.stage_same (fun _ h => St.sub h (by repeat (first | exact List.Sublist.refl _ | apply List.Sublist.cons_cons | apply List.Sublist.cons))) ?_))
  all_goals (
    apply DW.loud 5
    · exact rfl
    · decide +kernel
    repeat'(first|(apply kg;iterate 2 exact rfl)|(apply kG;iterate 3 exact rfl)|apply kM|(apply kp;iterate 2 exact rfl)|((first|apply kz|apply ky);(·exact rfl);(·repeat(first|exact iO|exact iR rfl|apply iT));iterate 2 exact rfl)|(apply kK;(iterate 4 exact rfl);intro _)|(apply kU;(iterate 2 exact rfl);(·repeat(first|exact sH _ _ _|apply sT));(first|exact nfL_eq rfl|exact rfl);exact rfl)|(apply kB;(iterate 2 exact rfl);intro _)|(apply kA;exact rfl;intro _)|(apply LR.call; (· exact rfl); (intro w1 h1; refine (c51 5 w1 (by decide)).mono ?_; rintro v w2 ⟨at_, ct, rfl, hn1⟩; refine LR.back (h1.newSl hn1) ?_; clear hn1 h1; apply kM))|(apply kq; (· exact rfl); (· intro w1 h1; have hq := CallsTo.q (c20 x.m (textN 5) x.a at_ x.c ct w1 (h1.rd_of_own (by (repeat (first | exact mH _ _ | apply mT)))) (h1.rd_of_own (by (repeat (first | exact mH _ _ | apply mT)))) hxl) h1; rw [show sameB x.m (textN 5) = true by rw [mx]; exact sameB_self _] at hq; show CallsTo Try.prog 20 [x.m.val x.a x.c, (textN 5).val at_ ct] w1 _; exact hq))|(apply kq; (· exact rfl); (· intro w1 h1; exact CallsTo.q (c48 b _ 31 s4 w1 (rdQ4 w1 (h1.holds _ (by (repeat (first | exact mH _ _ | apply mT))))) (by omega)) h1))|(apply LR.call; (· exact rfl); (intro w1 h1; have hh := c41 b ((0 + 1) % 32) s4 L4 (some ⟨_, 0, none⟩) 1 [zeroA] w1 (h1.holds _ (by (repeat (first | exact mH _ _ | apply mT)))) r4 (h1.rd_of_blk (mH _ _)) (fun k hk => h1.apart (y := qO b ((0 + 1) % 32) s4 L4) (by (repeat (first | exact mH _ _ | apply mT))) rfl k (by obtain ⟨_, ad, e, rfl⟩ := hk; cases e; rfl)) (fun y hy => by simp at hy; subst hy; exact zeroA_MR w1) (fun y hy k hk => by simp at hy; subst hy; exact absurd rfl hk.1) (by simp); rw [qputE_zero] at hh; refine CallsTo.mono hh ?_; clear hh; rintro v w2 ⟨s5, L5, rfl, r5, m5, st⟩; have h2 := h1.one' st rfl (qO_dep _ _ _ _) (by (repeat (first | exact sH _ _ _ | apply sT))); refine LR.back h2 ?_; clear h2 h1 st; apply kM)))
    all_goals (refine At.stage_same (fun _ h => St.sub h (by repeat (first | exact List.Sublist.refl _ | apply List.Sublist.cons_cons | apply List.Sublist.cons))) ?_))
  all_goals (
    apply DW.quiet [6, 7, 8]
    · decide +kernel
    · first | exact fun _ h => h | exact fun _ h => St.sub h (by repeat (first | exact List.Sublist.refl _ | apply List.Sublist.cons_cons | apply List.Sublist.cons))
    repeat'(first|(apply yp;iterate 3 exact rfl)|(apply QL.ev;(·exact rfl);(·first|((first|apply Ez|apply Ey);(·exact rfl);(·repeat(first|exact iO|exact iR rfl|apply iT));exact rfl)|((first|apply Ev.fieldAddr|apply Ev.len|apply EqOf.eq|apply EqOf.ne|apply Ev.conv|apply Ev.buildN);exact rfl)|((first|apply Ev.shr|apply Ev.shl);(iterate 2 exact rfl);first|decide|omega));·exact rfl)|(apply yq;iterate 5 exact rfl)|(apply QL.evg;(iterate 3 exact rfl);(·first|((first|apply Ez|apply Ey);(·exact rfl);(·repeat(first|exact iO|exact iR rfl|apply iT));exact rfl)|((first|apply Ev.fieldAddr|apply Ev.len|apply EqOf.eq|apply EqOf.ne|apply Ev.conv|apply Ev.buildN);exact rfl)|((first|apply Ev.shr|apply Ev.shl);(iterate 2 exact rfl);first|decide|omega));·exact rfl)|(apply yn;iterate 4 exact rfl)|((apply QL.split;iterate 3 exact rfl);all_goals(intro hc;try simp only[hcs]at hc;try(exfalso;first|contradiction|omega)))|apply QL.nil)
    all_goals (show DW _ _ _ _ _ _ _ _))
  all_goals (
    apply DW.loud 9
    · exact rfl
    · decide +kernel
    repeat'(first|(apply kg;iterate 2 exact rfl)|(apply kG;iterate 3 exact rfl)|apply kM|(apply kp;iterate 2 exact rfl)|((first|apply kz|apply ky);(·exact rfl);(·repeat(first|exact iO|exact iR rfl|apply iT));iterate 2 exact rfl)|(apply kK;(iterate 4 exact rfl);intro _)|(apply kU;(iterate 2 exact rfl);(·repeat(first|exact sH _ _ _|apply sT));(first|exact nfL_eq rfl|exact rfl);exact rfl)|(apply kB;(iterate 2 exact rfl);intro _)|(apply kA;exact rfl;intro _)|(apply LR.call; (· exact rfl); (intro w1 h1; refine (c51 5 w1 (by decide)).mono ?_; rintro v w2 ⟨at_, ct, rfl, hn1⟩; refine LR.back (h1.newSl hn1) ?_; clear hn1 h1; apply kM))|(apply kq; (· exact rfl); (· intro w1 h1; have hq := CallsTo.q (c20 x.m (textN 5) x.a at_ x.c ct w1 (h1.rd_of_own (by (repeat (first | exact mH _ _ | apply mT)))) (h1.rd_of_own (by (repeat (first | exact mH _ _ | apply mT)))) hxl) h1; rw [show sameB x.m (textN 5) = true by rw [mx]; exact sameB_self _] at hq; show CallsTo Try.prog 20 [x.m.val x.a x.c, (textN 5).val at_ ct] w1 _; exact hq))|(apply kq; (· exact rfl); (· intro w1 h1; exact CallsTo.q (c48 b _ 31 s4 w1 (rdQ4 w1 (h1.holds _ (by (repeat (first | exact mH _ _ | apply mT))))) (by omega)) h1))|(apply LR.call; (· exact rfl); (intro w1 h1; have hh := c41 b ((0 + 1) % 32) s4 L4 (some ⟨_, 0, none⟩) 1 [zeroA] w1 (h1.holds _ (by (repeat (first | exact mH _ _ | apply mT)))) r4 (h1.rd_of_blk (mH _ _)) (fun k hk => h1.apart (y := qO b ((0 + 1) % 32) s4 L4) (by (repeat (first | exact mH _ _ | apply mT))) rfl k (by obtain ⟨_, ad, e, rfl⟩ := hk; cases e; rfl)) (fun y hy => by simp at hy; subst hy; exact zeroA_MR w1) (fun y hy k hk => by simp at hy; subst hy; exact absurd rfl hk.1) (by simp); rw [qputE_zero] at hh; refine CallsTo.mono hh ?_; clear hh; rintro v w2 ⟨s5, L5, rfl, r5, m5, st⟩; have h2 := h1.one' st rfl (qO_dep _ _ _ _) (by (repeat (first | exact sH _ _ _ | apply sT))); refine LR.back h2 ?_; clear h2 h1 st; apply kM)))
    all_goals (refine At.stage_same (fun _ h => St.sub h (by repeat (first | exact List.Sublist.refl _ | apply List.Sublist.cons_cons | apply List.Sublist.cons))) ?_))
  all_goals (
    apply DW.quiet [10, 11, 12, 13, 14]
    · decide +kernel
    · first | exact fun _ h => h | exact fun _ h => St.sub h (by repeat (first | exact List.Sublist.refl _ | apply List.Sublist.cons_cons | apply List.Sublist.cons))
    repeat'(first|(apply yp;iterate 3 exact rfl)|(apply QL.ev;(·exact rfl);(·first|((first|apply Ez|apply Ey);(·exact rfl);(·repeat(first|exact iO|exact iR rfl|apply iT));exact rfl)|((first|apply Ev.fieldAddr|apply Ev.len|apply EqOf.eq|apply EqOf.ne|apply Ev.conv|apply Ev.buildN);exact rfl)|((first|apply Ev.shr|apply Ev.shl);(iterate 2 exact rfl);first|decide|omega));·exact rfl)|(apply yq;iterate 5 exact rfl)|(apply QL.evg;(iterate 3 exact rfl);(·first|((first|apply Ez|apply Ey);(·exact rfl);(·repeat(first|exact iO|exact iR rfl|apply iT));exact rfl)|((first|apply Ev.fieldAddr|apply Ev.len|apply EqOf.eq|apply EqOf.ne|apply Ev.conv|apply Ev.buildN);exact rfl)|((first|apply Ev.shr|apply Ev.shl);(iterate 2 exact rfl);first|decide|omega));·exact rfl)|(apply yn;iterate 4 exact rfl)|((apply QL.split;iterate 3 exact rfl);all_goals(intro hc;try simp only[hcs]at hc;try(exfalso;first|contradiction|omega)))|apply QL.nil)
    all_goals (show DW _ _ _ _ _ _ _ _))
  all_goals (
    apply DW.loud 15
    · exact rfl
    · decide +kernel
    repeat'(first|(apply kg;iterate 2 exact rfl)|(apply kG;iterate 3 exact rfl)|apply kM|(apply kp;iterate 2 exact rfl)|((first|apply kz|apply ky);(·exact rfl);(·repeat(first|exact iO|exact iR rfl|apply iT));iterate 2 exact rfl)|(apply kK;(iterate 4 exact rfl);intro _)|(apply kU;(iterate 2 exact rfl);(·repeat(first|exact sH _ _ _|apply sT));(first|exact nfL_eq rfl|exact rfl);exact rfl)|(apply kB;(iterate 2 exact rfl);intro _)|(apply kA;exact rfl;intro _)|(apply LR.call; (· exact rfl); (intro w1 h1; refine (c51 5 w1 (by decide)).mono ?_; rintro v w2 ⟨at_, ct, rfl, hn1⟩; refine LR.back (h1.newSl hn1) ?_; clear hn1 h1; apply kM))|(apply kq; (· exact rfl); (· intro w1 h1; have hq := CallsTo.q (c20 x.m (textN 5) x.a at_ x.c ct w1 (h1.rd_of_own (by (repeat (first | exact mH _ _ | apply mT)))) (h1.rd_of_own (by (repeat (first | exact mH _ _ | apply mT)))) hxl) h1; rw [show sameB x.m (textN 5) = true by rw [mx]; exact sameB_self _] at hq; show CallsTo Try.prog 20 [x.m.val x.a x.c, (textN 5).val at_ ct] w1 _; exact hq))|(apply kq; (· exact rfl); (· intro w1 h1; exact CallsTo.q (c48 b _ 31 s4 w1 (rdQ4 w1 (h1.holds _ (by (repeat (first | exact mH _ _ | apply mT))))) (by omega)) h1))|(apply LR.call; (· exact rfl); (intro w1 h1; have hh := c41 b ((0 + 1) % 32) s4 L4 (some ⟨_, 0, none⟩) 1 [zeroA] w1 (h1.holds _ (by (repeat (first | exact mH _ _ | apply mT)))) r4 (h1.rd_of_blk (mH _ _)) (fun k hk => h1.apart (y := qO b ((0 + 1) % 32) s4 L4) (by (repeat (first | exact mH _ _ | apply mT))) rfl k (by obtain ⟨_, ad, e, rfl⟩ := hk; cases e; rfl)) (fun y hy => by simp at hy; subst hy; exact zeroA_MR w1) (fun y hy k hk => by simp at hy; subst hy; exact absurd rfl hk.1) (by simp); rw [qputE_zero] at hh; refine CallsTo.mono hh ?_; clear hh; rintro v w2 ⟨s5, L5, rfl, r5, m5, st⟩; have h2 := h1.one' st rfl (qO_dep _ _ _ _) (by (repeat (first | exact sH _ _ _ | apply sT))); refine LR.back h2 ?_; clear h2 h1 st; apply kM)))
    all_goals (refine At.stage_same (fun _ h => St.sub h (by repeat (first | exact List.Sublist.refl _ | apply List.Sublist.cons_cons | apply List.Sublist.cons))) ?_))
  all_goals (
    apply DW.loud 16
    · exact rfl
    · decide +kernel
    repeat'(first|(apply kg;iterate 2 exact rfl)|(apply kG;iterate 3 exact rfl)|apply kM|(apply kp;iterate 2 exact rfl)|((first|apply kz|apply ky);(·exact rfl);(·repeat(first|exact iO|exact iR rfl|apply iT));iterate 2 exact rfl)|(apply kK;(iterate 4 exact rfl);intro _)|(apply kU;(iterate 2 exact rfl);(·repeat(first|exact sH _ _ _|apply sT));(first|exact nfL_eq rfl|exact rfl);exact rfl)|(apply kB;(iterate 2 exact rfl);intro _)|(apply kA;exact rfl;intro _)|(apply LR.call; (· exact rfl); (intro w1 h1; refine (c51 5 w1 (by decide)).mono ?_; rintro v w2 ⟨at_, ct, rfl, hn1⟩; refine LR.back (h1.newSl hn1) ?_; clear hn1 h1; apply kM))|(apply kq; (· exact rfl); (· intro w1 h1; have hq := CallsTo.q (c20 x.m (textN 5) x.a at_ x.c ct w1 (h1.rd_of_own (by (repeat (first | exact mH _ _ | apply mT)))) (h1.rd_of_own (by (repeat (first | exact mH _ _ | apply mT)))) hxl) h1; rw [show sameB x.m (textN 5) = true by rw [mx]; exact sameB_self _] at hq; show CallsTo Try.prog 20 [x.m.val x.a x.c, (textN 5).val at_ ct] w1 _; exact hq))|(apply kq; (· exact rfl); (· intro w1 h1; exact CallsTo.q (c48 b _ 31 s4 w1 (rdQ4 w1 (h1.holds _ (by (repeat (first | exact mH _ _ | apply mT))))) (by omega)) h1))|(apply LR.call; (· exact rfl); (intro w1 h1; have hh := c41 b ((0 + 1) % 32) s4 L4 (some ⟨_, 0, none⟩) 1 [zeroA] w1 (h1.holds _ (by (repeat (first | exact mH _ _ | apply mT)))) r4 (h1.rd_of_blk (mH _ _)) (fun k hk => h1.apart (y := qO b ((0 + 1) % 32) s4 L4) (by (repeat (first | exact mH _ _ | apply mT))) rfl k (by obtain ⟨_, ad, e, rfl⟩ := hk; cases e; rfl)) (fun y hy => by simp at hy; subst hy; exact zeroA_MR w1) (fun y hy k hk => by simp at hy; subst hy; exact absurd rfl hk.1) (by simp); rw [qputE_zero] at hh; refine CallsTo.mono hh ?_; clear hh; rintro v w2 ⟨s5, L5, rfl, r5, m5, st⟩; have h2 := h1.one' st rfl (qO_dep _ _ _ _) (by (repeat (first | exact sH _ _ _ | apply sT))); refine LR.back h2 ?_; clear h2 h1 st; apply kM)))
    all_goals (refine At.stage_same (fun _ h => St.sub h (by repeat (first | exact List.Sublist.refl _ | apply List.Sublist.cons_cons | apply List.Sublist.cons))) ?_))
  all_goals (
    apply DW.quiet [17, 18, 19]
    · decide +kernel
    · first | exact fun _ h => h | exact fun _ h => St.sub h (by repeat (first | exact List.Sublist.refl _ | apply List.Sublist.cons_cons | apply List.Sublist.cons))
    repeat'(first|(apply yp;iterate 3 exact rfl)|(apply QL.ev;(·exact rfl);(·first|((first|apply Ez|apply Ey);(·exact rfl);(·repeat(first|exact iO|exact iR rfl|apply iT));exact rfl)|((first|apply Ev.fieldAddr|apply Ev.len|apply EqOf.eq|apply EqOf.ne|apply Ev.conv|apply Ev.buildN);exact rfl)|((first|apply Ev.shr|apply Ev.shl);(iterate 2 exact rfl);first|decide|omega));·exact rfl)|(apply yq;iterate 5 exact rfl)|(apply QL.evg;(iterate 3 exact rfl);(·first|((first|apply Ez|apply Ey);(·exact rfl);(·repeat(first|exact iO|exact iR rfl|apply iT));exact rfl)|((first|apply Ev.fieldAddr|apply Ev.len|apply EqOf.eq|apply EqOf.ne|apply Ev.conv|apply Ev.buildN);exact rfl)|((first|apply Ev.shr|apply Ev.shl);(iterate 2 exact rfl);first|decide|omega));·exact rfl)|(apply yn;iterate 4 exact rfl)|((apply QL.split;iterate 3 exact rfl);all_goals(intro hc;try simp only[hcs]at hc;try(exfalso;first|contradiction|omega)))|apply QL.nil)
    all_goals (show DW _ _ _ _ _ _ _ _))
  all_goals (first | (apply DW.done_thn; (· decide +kernel)) | (apply DW.done; (· decide +kernel)))
  repeat'(first|(apply kp;iterate 2 exact rfl)|apply jJ|(apply jE;exact rfl)|(apply jp;exact rfl)|(apply jc;kernel_rfl)|((first|apply kf|apply kn|apply ke|apply kx|apply kc|apply kb);iterate 2 exact rfl)|((first|apply kz|apply ky);(·exact rfl);(·repeat(first|exact iO|exact iR rfl|apply iT));iterate 2 exact rfl)|(apply kg;iterate 2 exact rfl)|(apply kG;iterate 3 exact rfl)|(apply kB;(iterate 2 exact rfl);intro _)|(apply kA;exact rfl;intro _)|(apply kK;(iterate 4 exact rfl);intro _)|(apply kU;(iterate 2 exact rfl);(·repeat(first|exact sH _ _ _|apply sT));(first|exact nfL_eq rfl|exact rfl);exact rfl)|((first|apply kh|apply kl);(iterate 2 exact rfl);(first|decide|omega);exact rfl)|((first|(apply kR;iterate 2 exact rfl)|(apply kQ;exact rfl));all_goals(intro hc;try simp only[hcs]at hc;try(exfalso;first|contradiction|omega))))
  (apply ret1; (· exact rfl); intro w' hS)
  exact ⟨rfl, hS.toKeep⟩
end Go.Proofs.Ytomlgnncncjmaaa

namespace Go.Hb
section
variable {w0 w : World} {F : Nat → Prop} {L L' : List Asrt}
def ownsAt (w : World) (E : TypeId) (sz : Nat) (v : Value) (n : Nat) (xs : List Value) : Prop :=
  xs.length = n * sz ∧ ((v = .slice none 0 0 ∧ n = 0) ∨
   ∃ g o cap cur, v = .slice (some ⟨g, o, none⟩) n cap ∧ w.heap[g]? = some (.cells cur E (0, 0)) ∧ n ≤ cap ∧ cap ≤ maxLen ∧ o + cap * sz ≤ cur.size ∧ (cur.toList.drop o).take (n * sz) = xs)
/-- The slice v of n elements is one's own, wherever it begins. -/
def odl (v : Value) (E : TypeId) (sz n : Nat) (xs : List Value) : Asrt := .ex (fun k => v.ownBlock = some k) (fun w => ownsAt w E sz v n xs)
theorem odl.dep (v : Value) (E : TypeId) (sz n : Nat) (xs : List Value) : (odl v E sz n xs).dep := by
  intro w w' hk h
  refine ⟨h.1, ?_⟩
  rcases h.2 with hn | ⟨g, o, cap, cur, rfl, hg, r⟩
  · exact .inl hn
  · refine .inr ⟨g, o, cap, cur, rfl, ?_, r⟩
    rw [hk g rfl]; exact hg
theorem ownsAt_of {E : TypeId} {sz n base : Nat} {v : Value} {xs : List Value} (h : w.ownsRow base E sz v n xs) : ownsAt w E sz v n xs := by
  refine ⟨h.1, ?_⟩
  rcases h.2 with hn | ⟨g, cap, cur, rfl, hb, hg, h1, h2, h3, h4⟩
  · exact .inl hn
  · exact .inr ⟨g, 0, cap, cur, rfl, hg, h1, h2, by omega, h4⟩
theorem ownsAt_rd {E : TypeId} {sz n c : Nat} {a : Option Addr} {xs : List Value} (h : ownsAt w E sz (.slice a n c) n xs) : Rd w a xs := by
  intro j v hj
  rcases h.2 with ⟨he, hn⟩ | ⟨g, o, cap, cur, he, hg, h1, h2, h3, h4⟩
  · subst hn
    have := h.1
    simp only [Nat.zero_mul] at this
    rw [List.eq_nil_of_length_eq_zero this] at hj; simp at hj
  · simp only [Value.slice.injEq] at he
    obtain ⟨rfl, _, rfl⟩ := he
    refine ⟨_, rfl, ?_⟩
    rw [addr_add, cell_own hg]
    rw [← h4, List.getElem?_take] at hj
    split at hj
    · rw [List.getElem?_drop] at hj
      simpa using hj
    · cases hj
theorem ownsAt_drop {E : TypeId} {sz k c l : Nat} {a : Option Addr} {xs : List Value} (h : ownsAt w E sz (.slice a k c) k xs) (hl : l ≤ k) :
    ownsAt w E sz (.slice (subA a c l sz) (k - l) (c - l)) (k - l) (xs.drop (l * sz)) := by
  refine ⟨by rw [List.length_drop, h.1, Nat.sub_mul], ?_⟩
  rcases h.2 with ⟨he, hn⟩ | ⟨g, o, cap, cur, he, hg, h1, h2, h3, h4⟩
  · simp only [Value.slice.injEq] at he
    obtain ⟨rfl, _, rfl⟩ := he
    subst hn
    left
    refine ⟨?_, by omega⟩
    unfold subA
    simp
  · simp only [Value.slice.injEq] at he
    obtain ⟨rfl, _, rfl⟩ := he
    right
    by_cases hc : c = l
    · refine ⟨g, o, c - l, cur, by simp [subA, hc], hg, by omega, by omega, by rw [hc, Nat.sub_self]; omega, ?_⟩
      rw [show k - l = 0 by omega, Nat.zero_mul, List.take_zero, List.drop_of_length_le (by rw [h.1, show k = l by omega]; exact Nat.le_refl _)]
    · have hm : l * sz + (c - l) * sz = c * sz := by rw [← Nat.add_mul]; congr 1; omega
      refine ⟨g, o + l * sz, c - l, cur, ?_, hg, by omega, by omega, by omega, ?_⟩
      · unfold subA
        rw [if_neg hc]
        show Value.slice (some ((⟨g, o, none⟩ : Addr).add (l * sz))) _ _ = _
        rw [addr_add]
      · rw [← h4, List.drop_take, List.drop_drop, Nat.sub_mul]
theorem St.osl_odl {E : TypeId} {sz n : Nat} {v : Value} {xs : List Value} (h : St w0 F L w) (hs : Sel L (osl v E sz n xs) (odl v E sz n xs) L') : St w0 F L' w :=
  h.turn hs rfl (St.refl w _) (ownsAt_of (h.holds _ hs.mem)) (fun _ hk => .inl hk) (odl.dep _ _ _ _ _)
theorem St.odl_drop {E : TypeId} {sz k c l : Nat} {a : Option Addr} {xs : List Value} (h : St w0 F L w) (hs : Sel L (odl (.slice a k c) E sz k xs) (odl (.slice (subA a c l sz) (k - l) (c - l)) E sz (k - l) (xs.drop (l * sz))) L') (hl : l ≤ k) : St w0 F L' w := by
  refine h.turn hs rfl (St.refl w _) (ownsAt_drop (h.holds _ hs.mem) hl) (fun j hj => .inl ?_) (odl.dep _ _ _ _ _)
  have hj : (Value.slice (subA a c l sz) (k - l) (c - l)).ownBlock = some j := hj
  show (Value.slice a k c).ownBlock = some j
  unfold subA at hj
  split at hj
  · cases a <;> exact hj
  · cases a with
    | none => cases hj
    | some ad =>
      have : (ad.add (l * sz)).block = ad.block := addr_add_block _ _
      simp only [Option.map_some, Value.ownBlock, this] at hj
      exact hj
theorem St.odl_foot {a : Option Addr} {n c : Nat} {E sz : Nat} {xs : List Value} {k : Nat} (h : rdFoot a xs k) : (odl (.slice a n c) E sz n xs).foot k := by
  obtain ⟨_, ad, rfl, rfl⟩ := h; rfl
theorem St.rd_of_odl {n : Nat} {E : TypeId} {sz c : Nat} {a : Option Addr} {xs : List Value} (h : St w0 F L w) (hm : odl (.slice a n c) E sz n xs ∈ L) : Rd w a xs := ownsAt_rd (h.holds _ hm)
theorem ownsAt_some {a : Option Addr} {c n E sz : Nat} {xs : List Value} (h : ownsAt w E sz (.slice a n c) n xs) : a = none → n = 0 ∧ c = 0 := by
  intro ha; subst ha
  rcases h.2 with ⟨he, hn⟩ | ⟨g, o, cap, cur, he, _⟩
  · simp only [Value.slice.injEq] at he; exact ⟨hn, he.2.2⟩
  · simp at he
theorem odl_form {E : TypeId} {sz n : Nat} {v : Value} {xs : List Value} (h : ownsAt w E sz v n xs) : ∃ a c, v = .slice a n c := by
  rcases h.2 with ⟨rfl, rfl⟩ | ⟨g, o, cap, cur, rfl, _⟩
  · exact ⟨_, _, rfl⟩
  · exact ⟨_, _, rfl⟩
end
section
variable {P : Program} {f : Frm} {T T' : TypeId} {s x y : Operand} {v : Value} {w0 : World} {F : Nat → Prop} {L : List Asrt} {C : World → Prop}
variable {n : Nat} {ops rest : List Oper} {Q : Post} {p : String} {af : Array Edge} {d : Nat}
theorem run_append_in (w : World) (t tx ty e : TypeId) (i : TypeInfo) (ht : P.underlying t = some (.slice e)) (hi : P.info? e = some i) (b off sLen sCap : Nat) (cur : Array Value) (x : Value) (n : Nat) (news : List Value) (hs : Src P i.size tx x n news w)
    (hg : w.heap[b]? = some (.cells cur e (0, 0))) (hroom : sLen + n ≤ sCap) (hfit : off + sLen * i.size + news.length ≤ cur.size) :
    (Builtin.append_ #[t, tx] ty #[.slice (some ⟨b, off, none⟩) sLen sCap, x]).run P w = .ok (.slice (some ⟨b, off, none⟩) (sLen + n) sCap) (w.setRow b (splice cur.toList (off + sLen * i.size) news).toArray) := by
  have hst := run_storeCells_at P b (off + sLen * i.size) e news 0 cur w hg (by simpa using hfit) hs.one
  simp only [Nat.add_zero] at hst
  rcases hs.kind with ⟨e', hk⟩ | hk <;> simp [Builtin.append_, run_underlying ht, run_underlying hk, sizeOf, typeInfo, hi, hs.len, hroom, hs.cells, Addr.add_lit, hst, splice]
/-- append, as it runs, to a slice of one's own that may begin inside its block. -/
theorem run_append_odl {E : TypeId} {sz by_ : Nat} (h : SliceOf P T E sz by_) (w : World) (ty : TypeId) {n m cx : Nat} {ax : Option Addr} {xs news : List Value} (hown : ownsAt w E sz v n xs)
    (hrd : Rd w ax news) (hnone : ax = none → m = 0 ∧ cx = 0) (hl : news.length = m * sz) (h1 : news.all Value.oneCell' = true) (hbytes : (n + m) * by_ ≤ 140737488355328) (hmax : n + m ≤ maxLen) :
    ∃ v' w', (Builtin.append_ #[T, T] ty #[v, .slice ax m cx]).run P w = .ok v' w' ∧ ownsAt w' E sz v' (n + m) (xs ++ news) ∧ w.grownBy w' v.ownBlock ∧
      (∀ k, v'.ownBlock = some k → v.ownBlock = some k ∨ (w.heap.size ≤ k ∧ k < w'.heap.size)) := by
  rcases hown.2 with ⟨rfl, rfl⟩ | ⟨g, o, cap, cur, rfl, hg, hnc, hcm, hcs, htake⟩
  · have hx : xs = [] := List.eq_nil_of_length_eq_zero (by simpa using hown.1)
    subst hx
    obtain ⟨v', w', a1, a2, a3, _, a5⟩ := run_append_any (P := P) h w ty (v := .slice none 0 0) (n := 0) (World.ownsRow_nil w 0 E sz) hrd hnone hl h1 hbytes hmax
    exact ⟨v', w', a1, ownsAt_of a2, a3, a5⟩
  · have hinf := h.inf
    obtain ⟨z, hz, hzs⟩ := h.zero
    cases hi : P.info? E with
    | none => simp [hi] at hinf
    | some inf =>
      simp only [hi, Option.map_some, Option.some.injEq, Prod.mk.injEq] at hinf
      simp only [hi, Option.bind_some] at hz
      obtain ⟨rfl, rfl⟩ := hinf
      have h1' : ∀ u ∈ news, u.oneCell' = true := fun u hu => List.all_eq_true.1 h1 u hu
      have hsrc : Src P inf.size T (.slice ax m cx) m news w := by
        cases ax with
        | none =>
          obtain ⟨rfl, rfl⟩ := hnone rfl
          have hn : news = [] := List.eq_nil_of_length_eq_zero (by simpa using hl)
          subst hn
          exact Src.ofNil w h.und 0
        | some ad =>
          exact Src.ofSlice w h.und ad m cx news hl (fun j u hj => by obtain ⟨ad', ha', hc⟩ := hrd j u hj; cases ha'; exact hc) h1'
      have hlen : (xs ++ news).length = (n + m) * inf.size := by rw [List.length_append, hown.1, hl, Nat.add_mul]
      by_cases hroom : n + m ≤ cap
      · have hm : n * inf.size + m * inf.size ≤ cap * inf.size := by rw [← Nat.add_mul]; exact Nat.mul_le_mul_right _ hroom
        have hr := run_append_in w T T ty E inf h.und hi g o n cap cur (.slice ax m cx) m news hsrc hg hroom (by omega)
        refine ⟨_, _, hr, ⟨hlen, .inr ⟨g, o, cap, _, rfl, setRow_heap w g cur _ E _ hg, hroom, hcm, ?_, ?_⟩⟩, ⟨rfl, rfl, rfl, by simp, fun k _ hk => setRow_other w g k _ (fun e => hk (by simp [Value.ownBlock, e]))⟩, fun k hk => .inl hk⟩
        · simp only [splice, List.size_toArray, List.length_append, List.length_take, List.length_drop, Array.length_toList]
          omega
        · have e1 : (splice cur.toList (o + n * inf.size) news).drop o = (cur.toList.drop o).take (n * inf.size) ++ news ++ cur.toList.drop (o + n * inf.size + news.length) := by
            unfold splice
            rw [List.append_assoc, List.drop_append, List.drop_take, List.length_take, Array.length_toList]
            rw [show o + n * inf.size - o = n * inf.size by omega, show o - min (o + n * inf.size) cur.size = 0 by omega, List.drop_zero, List.append_assoc]
          show ((splice cur.toList (o + n * inf.size) news).drop o).take ((n + m) * inf.size) = xs ++ news
          rw [e1, htake, ← hlen]
          exact List.take_left
      · have hx63 : n + m ≤ 9223372036854775807 := by simp only [maxLen] at hmax; omega
        have holds : ∀ j u, xs[j]? = some u → w.drew.cell? ((⟨g, o, none⟩ : Addr).add j) = some u := fun j u hj => by
          obtain ⟨ad, he, hc⟩ := ownsAt_rd hown j u hj
          cases he; exact hc
        have hr := run_append_grow_src (P := P) w T T ty E inf z h.und hi hz (some ⟨g, o, none⟩) n cap xs (run_firstCells_some w.drew inf.size n ⟨g, o, none⟩ n cap xs hown.1 holds) (.slice ax m cx) m news hsrc (by omega) (by omega) (growslice_fits (by omega) hbytes)
        have hge := grownCap_ge w (n + m) cap E
        have hcm2 : grownCap w (n + m) cap E ≤ maxLen := grownCap_le_maxLen w (n + m) cap E hmax
        refine ⟨_, _, hr, ⟨hlen, .inr ⟨w.heap.size, 0, _, _, rfl, heap_alloc_new w.drew _, hge, hcm2, ?_, ?_⟩⟩, ⟨rfl, rfl, rfl, by simp, fun k hk _ => by first | exact heap_alloc_old w.drew _ hk | exact heap_alloc_old w.drew _ k hk⟩, ?_⟩
        · simp only [Array.size_append, List.size_toArray, size_zeroCells, hzs, hlen, Nat.zero_add, ← Nat.add_mul]
          exact Nat.le_of_eq (congrArg (· * _) (by omega))
        · simp only [Array.toList_append, List.drop_zero]
          rw [← hlen]
          exact List.take_left
        · intro k hk
          simp only [Value.ownBlock, Option.some.injEq] at hk
          subst hk
          exact .inr ⟨Nat.le_refl _, by simp⟩
/-- append to a slice of one's own that may begin inside its block. -/
theorem LR.append_odl {E : TypeId} {sz by_ k c m cx : Nat} {a ax : Option Addr} {xs news : List Value} {L' : Option Addr → Nat → List Asrt} [h : SliceOf P T E sz by_]
    (hs : f.ev s = .slice a k c) (hx : f.ev x = .slice ax m cx) (hsel : ∀ a' c', Sel L (odl (.slice a k c) E sz k xs) (odl (.slice a' (k + m) c') E sz (k + m) (xs ++ news)) (L' a' c'))
    (hrd : ∀ w, St w0 F L w → Rd w ax news) (hnone : ax = none → m = 0 ∧ cx = 0) (hl : news.length = m * sz) (h1 : news.all Value.oneCell' = true) (hbytes : (k + m) * by_ ≤ 140737488355328) (hmax : k + m ≤ maxLen) (hd : Nat.blt d n = true)
    (kk : ∀ a' c', LR false P n ops rest Q (upd f d (.slice a' (k + m) c')) (St w0 F (L' a' c'))) :
    LR false P n ops (⟨some d, .call ⟨.builtin .append, [s, x].toArray, [T, T].toArray⟩, T', p, af, none⟩ :: rest) Q f (St w0 F L) := by
  intro w hw b hb
  refine wpList_plain rfl fun K hK => ?_
  have hown : ownsAt w E sz (.slice a k c) k xs := hw.holds _ (hsel none 0).mem
  obtain ⟨v', w', hr, ho, hg, hblk⟩ := run_append_odl (P := P) h w T' hown (hrd w hw) hnone hl h1 hbytes hmax
  obtain ⟨a', c', rfl⟩ := odl_form ho
  have hr' := run_builtin_append (P := P) (T' := T') (dst := some d) (p := p) (af := af) (g := none) hs hx hr
  rw [← hb.eval] at hr'
  simp only [Oper.wp, hr', Oper.upon_value]
  refine hK _ _ (kk a' c' w' ?_ _ (hb.put _ hd))
  exact hw.turn (hsel a' c') rfl (keep_of_grown hg fun k hk => hk) ho (fun k hk => hblk k hk) (odl.dep _ _ _ _ _)
end
/-! ### bundles, joined -/
section
variable {α : Type} {f : α → Asrt} {w0 w : World} {F : Nat → Prop} {R : List Asrt} {x : α} {l r : List α}
theorem St.bun_append (hd : ∀ x, (f x).dep) (h : St w0 F (bun f l :: bun f r :: R) w) : St w0 F (bun f (l ++ r) :: R) w := by
  obtain ⟨b1, b2, b3⟩ : (bun f l).holds w := h.g0
  obtain ⟨c1, c2, c3⟩ : (bun f r).holds w := h.g1
  have hdis := (List.pairwise_cons.1 h.dis).1 (bun f r) (by simp) rfl
  refine h.merge rfl rfl ⟨?_, ?_, ?_⟩ ?_ (bun_dep hd _)
  · intro y hy
    rcases List.mem_append.1 hy with hy | hy
    · exact b1 y hy
    · exact c1 y hy
  · exact List.pairwise_append.2 ⟨b2, c2, fun a ha b hb k hk hk2 => hdis k ⟨a, ha, hk⟩ ⟨b, hb, hk2⟩⟩
  · rintro k ⟨y, hy, hk⟩
    rcases List.mem_append.1 hy with hy | hy
    · exact b3 k ⟨y, hy, hk⟩
    · exact c3 k ⟨y, hy, hk⟩
  · rintro k ⟨y, hy, hk⟩
    rcases List.mem_append.1 hy with hy | hy
    · exact .inl ⟨y, hy, hk⟩
    · exact .inr ⟨y, hy, hk⟩
theorem St.bun_perm (hd : ∀ x, (f x).dep) (hp : l.Perm r) (h : St w0 F (bun f l :: R) w) : St w0 F (bun f r :: R) w := by
  obtain ⟨b1, b2, b3⟩ : (bun f l).holds w := h.g0
  refine h.turn (sH _ _ _) rfl (St.refl w _) ⟨fun x hx => b1 x (hp.mem_iff.2 hx), (hp.pairwise_iff (fun {x y} hxy k hk hk2 => hxy k hk2 hk)).1 b2, fun k ⟨x, hx, hk⟩ => b3 k ⟨x, hp.mem_iff.2 hx, hk⟩⟩ (fun k ⟨x, hx, hk⟩ => .inl ⟨x, hp.mem_iff.2 hx, hk⟩) (bun_dep hd _)
theorem St.bun_pick {q : List α} (hd : ∀ x, (f x).dep) (h : St w0 F (bun f (l ++ x :: q) :: R) w) : St w0 F (f x :: bun f (l ++ q) :: R) w := St.bun_head hd (St.bun_perm hd List.perm_middle h)
theorem St.bun_put {q : List α} (hd : ∀ x, (f x).dep) (he : ∀ x, (f x).excl = true) (h : St w0 F (f x :: bun f (l ++ q) :: R) w) : St w0 F (bun f (l ++ x :: q) :: R) w :=
  St.bun_perm hd ((List.perm_append_singleton x (l ++ q)).trans List.perm_middle.symm) (St.bun_snoc hd he h)
end
/-! ### stores into a slice that may begin inside its block -/
theorem splice_take {D vs : List Value} {i N : Nat} (h : i + vs.length ≤ N) (hN : N ≤ D.length) : (splice D i vs).take N = splice (D.take N) i vs := by
  have e2 : splice D i vs = splice (D.take N) i vs ++ D.drop N := by
    have e3 : D = D.take N ++ D.drop N := (List.take_append_drop N D).symm
    have hl : (D.take N).length = N := by simp; omega
    conv => lhs; rw [e3]
    unfold splice
    rw [List.take_append_of_le_length (by omega), List.drop_append_of_le_length (by omega)]
    simp
  have e4 : (splice (D.take N) i vs).length = N := by simp [splice]; omega
  rw [e2, List.take_append_of_le_length (by omega), List.take_of_length_le (by omega)]
theorem splice_drop {D vs : List Value} {o i : Nat} (h : o + i ≤ D.length) : (splice D (o + i) vs).drop o = splice (D.drop o) i vs := by
  unfold splice
  rw [List.append_assoc, List.drop_append, List.drop_take, List.length_take, show o - min (o + i) D.length = 0 by omega, List.drop_zero, show o + i - o = i by omega, List.drop_drop, List.append_assoc, Nat.add_assoc]
theorem Stores.odl {P : Program} {T : TypeId} {q b o i n c : Nat} {v : Value} {vs xs : List Value} {E : TypeId} {sz : Nat} (h : Sz P T q) (hv : v.cells = vs.toArray) (h1 : vs.all Value.oneCell' = true) (hm : vs.length = q) (hb : i + vs.length ≤ xs.length) :
    Stores P T ⟨b, o + i, none⟩ v (odl (.slice (some ⟨b, o, none⟩) n c) E sz n xs) (odl (.slice (some ⟨b, o, none⟩) n c) E sz n (splice xs i vs)) := by
  intro w hw
  have hw' : ownsAt w E sz (.slice (some ⟨b, o, none⟩) n c) n xs := hw
  obtain ⟨hl, hr⟩ := hw'
  rcases hr with ⟨he, _⟩ | ⟨g, o', cap, cur, he, hg, hnc, hcm, hcs, htake⟩
  · cases he
  simp only [Value.slice.injEq, Option.some.injEq, Addr.mk.injEq, and_true, true_and] at he
  obtain ⟨⟨rfl, rfl⟩, rfl⟩ := he
  have hmul : n * sz ≤ c * sz := Nat.mul_le_mul_right _ hnc
  have hg' : w.heap[b]? = some (.cells cur.toList.toArray E (0, 0)) := by simpa using hg
  have hsz : cur.toList.length = cur.size := Array.length_toList
  have hrun := run_storeVar (P := P) h w b (o + i) v vs cur.toList E hv hm hg' (by omega) h1
  refine ⟨_, hrun, ⟨Keep.setRow w b _ _ E hg' rfl, ?_, fun k hk => .inl hk⟩⟩
  refine ⟨by simp [splice]; omega, .inr ⟨b, o, c, (splice cur.toList (o + i) vs).toArray, rfl, setRow_heap w b _ _ E (0, 0) hg', hnc, hcm, ?_, ?_⟩⟩
  · simp [splice]; omega
  · show ((splice cur.toList (o + i) vs).drop o).take (n * sz) = splice xs i vs
    rw [splice_drop (by omega), splice_take (by omega) (by simp; omega), htake]
end Go.Hb

namespace Go.Proofs.Ytomlgnncncjmaaa
open Go.Hb Go.ChangeShapes Go.WideShapes
attribute [local irreducible] LR CW At Ev thn blk finK noG again CallsTo DW QL dnext TW DP
set_option linter.unusedSimpArgs false
set_option linter.unusedVariables false
set_option maxRecDepth 100000

structure DeedA where
  a : Option Addr
  c : Nat
  ms : List MsgA
  take : Int
def DeedA.row (x : DeedA) : List Value := [.slice x.a x.ms.length x.c, .int .i64 x.take]
theorem DeedA.row_len (x : DeedA) : x.row.length = 2 := rfl
structure DR (w : World) (x : DeedA) : Prop where
  hr : Rd w x.a (x.ms.flatMap MsgA.row)
  hR : ∀ y ∈ x.ms, MR w y
  hz : x.a = none → x.c = 0
  hm : x.ms.length * 120 ≤ 140737488351232
theorem opn_msgs2 : Opn Try.prog 69 (fun w cs => ∃ (a : Option Addr) (c : Nat) (l : List MsgA), cs = [.slice a l.length c] ∧ Rd w a (l.flatMap MsgA.row) ∧ (∀ x ∈ l, MR w x) ∧ (a = none → c = 0) ∧ l.length ≤ c ∧ l.length * 120 ≤ 140737488351232) := by
  refine (opn_slice Try.underlying69 (sz := 13) (by_ := 120) (by kernel_rfl) (by omega) (by kernel_rfl) opn_msg).mono ?_
  rintro w cs ⟨a, len, cap, css, rfl, rfl, hg, hr, hz, hc, hm⟩
  obtain ⟨l, h1, h2, h3⟩ := Go.Hb.rows_of (f := MsgA.row) (R := fun x => MR w x) css fun c hc => by
    obtain ⟨m, a, c', e, h1, h2, h3, h4, _⟩ := (hg c hc).1
    exact ⟨⟨m, a, c'⟩, e, h1, h3, by show m.body.length ≤ _; omega, h2⟩
  rw [h1] at hr
  have hm : css.length * 120 ≤ 140737488351232 := hm
  exact ⟨a, cap, l, by rw [h2], hr, h3, hz, by omega, by omega⟩
theorem opn_deed : Opn Try.prog 72 (fun w cs => ∃ x : DeedA, cs = x.row ∧ DR w x) := by
  refine (opn_struct Try.underlying72).mono fun w cs ⟨hl, h⟩ => ?_
  have hl : cs.length = 2 := hl
  match cs, hl with
  | [y0, y1], _ =>
    obtain ⟨a, c, l, h0, hr, hR, hz, hc, hm⟩ := h 0 _ rfl _ opn_msgs2
    obtain ⟨x1, h1, g1⟩ := h 1 _ rfl _ opn_i64
    have h0 : [y0] = [.slice a l.length c] := h0
    have h1 : [y1] = [Value.int .i64 x1] := h1
    simp only [List.cons.injEq, and_true] at h0 h1
    exact ⟨⟨a, c, l, x1⟩, by rw [h0, h1]; rfl, hr, hR, hz, hm⟩
theorem opn_deeds : Opn Try.prog 64 (fun w cs => ∃ (a : Option Addr) (c : Nat) (l : List DeedA), cs = [.slice a l.length c] ∧ Rd w a (l.flatMap DeedA.row) ∧ (∀ x ∈ l, DR w x) ∧ (a = none → c = 0) ∧ l.length ≤ c ∧ l.length ≤ 140737488351232) := by
  refine (opn_slice Try.underlying64 (sz := 2) (by_ := 32) (by kernel_rfl) (by omega) (by kernel_rfl) opn_deed).mono ?_
  rintro w cs ⟨a, len, cap, css, rfl, rfl, hg, hr, hz, hc, hm⟩
  obtain ⟨l, h1, h2, h3⟩ := rows_of css fun c hc => (hg c hc).1
  rw [h1] at hr
  have hm : css.length * 32 ≤ 140737488351232 := hm
  exact ⟨a, cap, l, by rw [h2], hr, h3, hz, by omega, by omega⟩

set_option maxHeartbeats 1000000 in
theorem c40 (al : Option Addr) (cl : Nat) (l : List MsgA) (w : World) (hr : Rd w al (l.flatMap MsgA.row)) (hR : ∀ x ∈ l, MR w x) (hm : l.length * 120 ≤ 140737488351232) :
    CallsTo Try.prog 40 [.slice al l.length cl] w fun v w' => ∃ a c l', v = .slice a l'.length c ∧ l'.map MsgA.m = l.map MsgA.m ∧ St w NoF [mS a c l', bunB l'] w' := by
  refine go_in (n := 20) (St.rd1 hr) Try.func40 rfl rfl ?_
  repeat'(first|(apply kp;iterate 2 exact rfl)|apply jJ|(apply jE;exact rfl)|(apply jp;exact rfl)|(apply jc;kernel_rfl)|((first|apply kf|apply kn|apply ke|apply kx|apply kc|apply kb);iterate 2 exact rfl)|((first|apply kz|apply ky);(·exact rfl);(·repeat(first|exact iO|exact iR rfl|apply iT));iterate 2 exact rfl)|(apply kg;iterate 2 exact rfl)|(apply kG;iterate 3 exact rfl)|(apply kB;(iterate 2 exact rfl);intro _)|(apply kA;exact rfl;intro _)|(apply kK;(iterate 4 exact rfl);intro _)|(apply kU;(iterate 2 exact rfl);(·repeat(first|exact sH _ _ _|apply sT));(first|exact nfL_eq rfl|exact rfl);exact rfl)|((first|apply kh|apply kl);(iterate 2 exact rfl);(first|decide|omega);exact rfl)|((first|(apply kR;iterate 2 exact rfl)|(apply kQ;exact rfl));all_goals(intro hc;try simp only[hcs]at hc;try(exfalso;first|contradiction|omega))))
  apply CW.loop [3, 4, 5, 6, 7, 8, 9, 10, 11, 12, 13, 14, 15, 16, 17, 18] (fun s : Nat × Option Addr × Nat × List MsgA => s.1 ≤ l.length ∧ s.2.2.2.map MsgA.m = (l.take s.1).map MsgA.m) (fun s => [(4, Value.int .i64 (s.1 : Int)), (3, .slice s.2.1 s.2.2.2.length s.2.2.1)])
    (fun s => St w NoF [mS s.2.1 s.2.2.1 s.2.2.2, bunB s.2.2.2, rdA al (l.flatMap MsgA.row)]) (fun s => l.length - s.1)
  · exact fun w' hw' => ⟨(0, none, 0, []), ⟨by simp, by simp⟩, ⟨rfl, rfl, trivial⟩, (hw'.bun_nil MsgA.dep).nilsl 28 13⟩
  rintro ⟨i, a, c, l'⟩ g ⟨hi, hl⟩
  simp only at hi hl ⊢
  have hlen : l'.length = i := by have := congrArg List.length hl; simp at this; omega
  by_cases hlt : i < l.length
  · obtain ⟨ba, oa, rfl⟩ := hr.form (rows_ne MsgA.row_len (by omega) hlt)
    have hx := hR _ (List.getElem_mem hlt)
    repeat'(first|(apply kp;iterate 2 exact rfl)|apply jJ|(apply jE;exact rfl)|(apply jp;exact rfl)|(apply jc;kernel_rfl)|((first|apply kf|apply kn|apply ke|apply kx|apply kc|apply kb);iterate 2 exact rfl)|((first|apply kz|apply ky);(·exact rfl);(·repeat(first|exact iO|exact iR rfl|apply iT));iterate 2 exact rfl)|(apply kg;iterate 2 exact rfl)|(apply kG;iterate 3 exact rfl)|(apply kB;(iterate 2 exact rfl);intro _)|(apply kA;exact rfl;intro _)|(apply kK;(iterate 4 exact rfl);intro _)|(apply kU;(iterate 2 exact rfl);(·repeat(first|exact sH _ _ _|apply sT));(first|exact nfL_eq rfl|exact rfl);exact rfl)|((first|apply kh|apply kl);(iterate 2 exact rfl);(first|decide|omega);exact rfl)|(apply idxX;(iterate 2 exact rfl);(iterate 2(first|omega|(dsimp only;omega)));exact rfl)|(apply LR.ev; (· apply Ev.load_agg_at (cs := l[i].row); (· exact rfl); (· exact rfl); (· intro w' hw'; exact rd_row MsgA.row_len (hw'.rd_of (by (repeat (first | exact mH _ _ | apply mT)))) hlt (by simp))); (· exact rfl))|((first|(apply kR;iterate 2 exact rfl)|(apply kQ;exact rfl));all_goals(intro hc;try simp only[hcs]at hc;try(exfalso;first|contradiction|omega))))
    apply LR.call
    · exact rfl
    intro w1 h1
    have hh := c14 l[i].m l[i].a l[i].c w1 (h1.oldRd hx.hr) hx.hz hx.hm
    refine CallsTo.mono hh ?_
    clear hh
    rintro v w2 ⟨a1, c1, rfl, hn1⟩
    refine LR.back (h1.newSl hn1) ?_
    clear hn1 h1
    repeat'(first|(apply kp;iterate 2 exact rfl)|apply jJ|(apply jE;exact rfl)|(apply jp;exact rfl)|(apply jc;kernel_rfl)|((first|apply kf|apply kn|apply ke|apply kx|apply kc|apply kb);iterate 2 exact rfl)|((first|apply kz|apply ky);(·exact rfl);(·repeat(first|exact iO|exact iR rfl|apply iT));iterate 2 exact rfl)|(apply kg;iterate 2 exact rfl)|(apply kG;iterate 3 exact rfl)|(apply kB;(iterate 2 exact rfl);intro _)|(apply kA;exact rfl;intro _)|(apply kK;(iterate 4 exact rfl);intro _)|(apply kU;(iterate 2 exact rfl);(·repeat(first|exact sH _ _ _|apply sT));(first|exact nfL_eq rfl|exact rfl);exact rfl)|((first|apply kh|apply kl);(iterate 2 exact rfl);(first|decide|omega);exact rfl)|((first|(apply kR;iterate 2 exact rfl)|(apply kQ;exact rfl));all_goals(intro hc;try simp only[hcs]at hc;try(exfalso;first|contradiction|omega))))
    refine LR.append (xs := l'.flatMap MsgA.row) (news := MsgA.row ⟨l[i].m, a1, c1⟩) (m := 1) rfl rfl (fun a' c' => sT _ (sT _ (sH _ _ _))) (fun w' hw' => hw'.rd_of_blk (mH _ _)) (fun hx => by cases hx) rfl (by simp [MsgA.row, Msg.cells, Value.oneCell']) (by omega) (by unfold maxLen; omega) rfl ?_
    intro ay cy
    repeat'(first|(apply kp;iterate 2 exact rfl)|apply jJ|(apply jE;exact rfl)|(apply jp;exact rfl)|(apply jc;kernel_rfl)|((first|apply kf|apply kn|apply ke|apply kx|apply kc|apply kb);iterate 2 exact rfl)|((first|apply kz|apply ky);(·exact rfl);(·repeat(first|exact iO|exact iR rfl|apply iT));iterate 2 exact rfl)|(apply kg;iterate 2 exact rfl)|(apply kG;iterate 3 exact rfl)|(apply kB;(iterate 2 exact rfl);intro _)|(apply kA;exact rfl;intro _)|(apply kK;(iterate 4 exact rfl);intro _)|(apply kU;(iterate 2 exact rfl);(·repeat(first|exact sH _ _ _|apply sT));(first|exact nfL_eq rfl|exact rfl);exact rfl)|((first|apply kh|apply kl);(iterate 2 exact rfl);(first|decide|omega);exact rfl)|(apply addX;(iterate 2 exact rfl);(iterate 2(first|omega|(dsimp only;omega)));exact rfl)|((first|(apply kR;iterate 2 exact rfl)|(apply kQ;exact rfl));all_goals(intro hc;try simp only[hcs]at hc;try(exfalso;first|contradiction|omega))))
    apply At.again (i + 1, ay, cy, l' ++ [⟨l[i].m, a1, c1⟩])
    · refine ⟨by show i + 1 ≤ _; omega, ?_⟩
      show (l' ++ [MsgA.mk l[i].m a1 c1]).map MsgA.m = (l.take (i + 1)).map MsgA.m
      rw [List.take_succ_eq_append_getElem hlt, List.map_append, List.map_append, hl]
      rfl
    · (repeat (first | exact Out.refl _ _ | exact Out.mix | (apply Out.upd; (· exact rfl)) | (apply Out.updL; (· exact rfl)) | (apply Out.mixs; (· exact rfl))))
    · exact ⟨rfl, by show Value.slice ay (l'.length + 1) cy = .slice ay (l' ++ [MsgA.mk l[i].m a1 c1]).length cy; simp, trivial⟩
    · intro w' hw'
      have h2 := St.bun_snoc (f := MsgA.body) (x := ⟨l[i].m, a1, c1⟩) (l := l') MsgA.dep MsgA.ex (front (front hw' 3 rfl rfl) 2 rfl rfl)
      rw [mS_snoc] at h2
      exact (front h2 2 rfl rfl).sub (by repeat (first | exact List.Sublist.refl _ | apply List.Sublist.cons_cons | apply List.Sublist.cons))
    · show l.length - (i + 1) < l.length - i
      omega
  · repeat'(first|(apply kp;iterate 2 exact rfl)|apply jJ|(apply jE;exact rfl)|(apply jp;exact rfl)|(apply jc;kernel_rfl)|((first|apply kf|apply kn|apply ke|apply kx|apply kc|apply kb);iterate 2 exact rfl)|((first|apply kz|apply ky);(·exact rfl);(·repeat(first|exact iO|exact iR rfl|apply iT));iterate 2 exact rfl)|(apply kg;iterate 2 exact rfl)|(apply kG;iterate 3 exact rfl)|(apply kB;(iterate 2 exact rfl);intro _)|(apply kA;exact rfl;intro _)|(apply kK;(iterate 4 exact rfl);intro _)|(apply kU;(iterate 2 exact rfl);(·repeat(first|exact sH _ _ _|apply sT));(first|exact nfL_eq rfl|exact rfl);exact rfl)|((first|apply kh|apply kl);(iterate 2 exact rfl);(first|decide|omega);exact rfl)|((first|(apply kR;iterate 2 exact rfl)|(apply kQ;exact rfl));all_goals(intro hc;try simp only[hcs]at hc;try(exfalso;first|contradiction|omega))))
    (apply ret1; (· exact rfl); intro w' hS)
    rw [List.take_of_length_le (by omega)] at hl
    exact ⟨a, c, l', rfl, hl, hS.sub (by repeat (first | exact List.Sublist.refl _ | exact List.nil_sublist _ | apply List.Sublist.cons_cons | apply List.Sublist.cons))⟩
def allok (l : List MsgA) : Bool := l.all fun x => decide (check x.m = 0)
theorem allok_succ {l : List MsgA} {k : Nat} (h : k < l.length) : allok (l.take (k + 1)) = (allok (l.take k) && decide (check l[k].m = 0)) := by
  unfold allok
  rw [List.take_succ_eq_append_getElem h, List.all_append, List.all_cons, List.all_nil, Bool.and_true]
theorem qputE_bad {n : Nat} {l : List MsgA} (h : allok l = false) : qputE n l = 2 := by
  unfold qputE
  rw [if_pos]
  unfold allok at h
  rw [List.any_eq_true]
  rw [List.all_eq_false] at h
  obtain ⟨x, hx, h2⟩ := h
  exact ⟨x, hx, by simpa using h2⟩
theorem allok_mem {l : List MsgA} (h : allok l = true) : ∀ x ∈ l, check x.m = 0 := fun x hx => by
  unfold allok at h
  have := List.all_eq_true.1 h x hx
  simpa using this
abbrev odB (a : Option Addr) (c : Nat) (l : List MsgA) : Asrt := odl (.slice a l.length c) 28 13 l.length (l.flatMap MsgA.row)
/-- Messages that were there at the start are put in. -/
theorem put_deed {w w1 : World} {R : List Asrt} {b first : Nat} {slots L : List MsgA} {x : DeedA} (h1 : St w NoF R w1) (hqm : qO b first slots L ∈ R) (hq : QRep first slots L) (hx : DR w x) :
    CallsTo Try.prog 41 [.pointer (some ⟨b, 0, none⟩), .slice x.a x.ms.length x.c] w1 fun v w' => ∃ slots' L', v = .int .i64 (qputE L.length x.ms) ∧ QRep first slots' L' ∧ L'.map MsgA.m = L.map MsgA.m ++ (if qputE L.length x.ms = 0 then x.ms.map MsgA.m else []) ∧ Step (qO b first slots L) (qO b first slots' L') w1 w' :=
  c41 b first slots L x.a x.c x.ms w1 (h1.holds _ hqm) hq (h1.oldRd hx.hr) (h1.oldApart hqm rfl hx.hr) (fun y hy => (hx.hR y hy).old h1) (fun y hy => h1.oldApart hqm rfl (hx.hR y hy).hr) (by have := hx.hm; omega)
end Go.Proofs.Ytomlgnncncjmaaa

namespace Go.Hb
section
variable {P : Program} {md : Region.Mode} {ops : Array Oper} {Q Q' : Exit → Act → World → Prop} {z : Nat}
theorem oper_only (hN : ∀ e a w, Q' e a w → e = .normal) {o : Oper} {a : Act} {w : World} {K K' : Act → World → Prop} (hk : ∀ a w, K a w → K' a w) (h : o.wp P a w K Q') : o.wp P a w K' Q := by
  unfold Oper.wp at *
  generalize (execOp a.eval o).run P w = r at *
  cases r with
  | ok nx w' =>
    cases nx <;> simp only [Oper.upon] at h ⊢
    case value => exact hk _ _ h
    case skip => exact hk _ _ h
    case defer => exact hk _ _ h
    case enter g args =>
      refine Calls.mono h fun e w'' he => ?_
      cases e with
      | returned u => exact hk _ _ he
      | panicked c => cases hN _ _ _ he
      | outgrown => obtain ⟨_, _, he⟩ := he; cases hN _ _ _ he
    case row => exact Rows.mono h (fun _ _ he => hk _ _ he)
  | halt x w' =>
    cases x <;> simp only [Oper.upon] at h ⊢
    case panic => cases hN _ _ _ h
theorem wpOp_only (hN : ∀ e a w, Q' e a w → e = .normal) {i : Nat} {a : Act} {w : World} {K K' : Act → World → Prop} (hk : ∀ a w, K a w → K' a w) (h : wpOp P ops Q' i K a w) : wpOp P ops Q i K' a w := by
  unfold wpOp at *
  cases ho : ops[i]? with
  | none => simp only [ho] at h; exact hk _ _ h
  | some o =>
    simp only [ho] at h ⊢
    split
    · rename_i hw
      rw [if_pos hw] at h
      rcases h with h | ⟨_, a', w', he⟩
      · exact .inl (oper_only hN hk h)
      · cases hN _ _ _ he
    · rename_i hw
      rw [if_neg hw] at h
      exact hk _ _ h
/-- Every other operation is waited for, and nothing waits for z: so z comes last. -/
structure Sink (md : Region.Mode) (ops : Array Oper) (z : Nat) : Prop where
  deps : ∀ (j : Nat) (o : Oper), ops[j]? = some o → ∀ e ∈ o.after, Region.binds md e = true → e.on ≠ z ∧ e.on < j
  all : ∀ i, i < ops.size → i ≠ z → ∃ (j : Nat) (o : Oper), ops[j]? = some o ∧ ∃ e ∈ o.after, Region.binds md e = true ∧ e.on = i
  lt : z < ops.size
theorem getD_tf {listed : Array Bool} {i : Nat} (h : listed.getD i false = true) : listed.getD i true = true := by
  rcases Nat.lt_or_ge i listed.size with h' | h'
  · simp [h'] at h ⊢; exact h
  · simp [Array.getElem?_eq_none h'] at h
theorem getD_set_self {listed : Array Bool} {i : Nat} (h : i < listed.size) : (listed.setIfInBounds i true).getD i true = true := by simp [h]
def Closed (md : Region.Mode) (ops : Array Oper) (z : Nat) (listed : Array Bool) : Prop := ∀ (j : Nat) (o : Oper), ops[j]? = some o → j ≠ z → listed.getD j false = true → ∀ e ∈ o.after, Region.binds md e = true → listed.getD e.on false = true
theorem Sink.before (hs : Sink md ops z) {listed : Array Bool} (hc : Closed md ops z listed) (hz : z ∈ Region.ready md ops listed) : ∀ d k, ops.size - k ≤ d → k < ops.size → k ≠ z → listed.getD k false = true := by
  intro d
  induction d with
  | zero => intro k hd hk; omega
  | succ d ih =>
    intro k hd hk hkz
    obtain ⟨j, o, ho, e, he, hb, rfl⟩ := hs.all k hk hkz
    have hj : j < ops.size := (Array.getElem?_eq_some_iff.1 ho).1
    have hlt := (hs.deps j o ho e he hb).2
    by_cases hjz : j = z
    · subst hjz
      obtain ⟨_, o', ho', hd'⟩ := mem_ready.1 hz
      rw [ho] at ho'; cases ho'
      exact hd' e he hb
    · exact hc j o ho hjz (ih j (by omega) hj hjz) e he hb
theorem any_ready (hs : Sink md ops z) {listed : Array Bool} : ∀ i, i ≠ z → (i ∈ Region.ready md ops listed ↔ i ∈ Region.ready md ops (listed.setIfInBounds z true)) := by
  intro i hi
  rw [mem_ready, mem_ready]
  constructor
  · rintro ⟨h1, o, ho, h2⟩
    exact ⟨by rw [getD_set_ne true (Ne.symm hi)]; exact h1, o, ho, fun e he hb => getD_set_true (h2 e he hb)⟩
  · rintro ⟨h1, o, ho, h2⟩
    refine ⟨by rw [getD_set_ne true (Ne.symm hi)] at h1; exact h1, o, ho, fun e he hb => ?_⟩
    have := h2 e he hb
    rwa [getD_set_ne false (Ne.symm (hs.deps i o ho e he hb).1)] at this
theorem any_sink_end (hs : Sink md ops z) (hN : ∀ e a w, Q' e a w → e = .normal) (hK : ∀ a w, Q' .normal a w → wpOp P ops Q z (Q .normal) a w) {listed : Array Bool} {a : Act} {w : World} (hsz : listed.size = ops.size) (hlz : listed.getD z true = false)
    (hr : Region.ready md ops (listed.setIfInBounds z true) = []) (hq : Q' .normal a w) (fuel : Nat) : wpAny P md ops Q (fuel + 1) listed a w := by
  have hR := any_ready hs (listed := listed)
  have hall : ∀ k i, i < k → i < ops.size → i ≠ z → listed.getD i false = true := by
    intro k
    induction k with
    | zero => intro i hi; omega
    | succ k ih =>
      intro i hik hi hiz
      cases hx : listed.getD i false with
      | true => rfl
      | false =>
        have : i ∈ Region.ready md ops (listed.setIfInBounds z true) := by
          rw [← hR i hiz, mem_ready]
          have hi' : i < listed.size := hsz ▸ hi
          refine ⟨by simp [hi'] at hx ⊢; exact hx, ops[i], by simp [hi], fun e he hb => ?_⟩
          have hd := hs.deps i ops[i] (by simp [hi]) e he hb
          exact ih e.on (by omega) (by omega) hd.1
        rw [hr] at this; cases this
  have hz : z ∈ Region.ready md ops listed := by
    rw [mem_ready]
    refine ⟨hlz, ops[z]'hs.lt, by simp [hs.lt], fun e he hb => ?_⟩
    have hd := hs.deps z (ops[z]'hs.lt) (by simp [hs.lt]) e he hb
    exact hall ops.size e.on (by have := hs.lt; omega) (by have := hs.lt; omega) hd.1
  refine ⟨fun h0 => (by rw [h0] at hz; cases hz), fun i hi => ?_⟩
  have hiz : i = z := Classical.byContradiction fun hne => by
    have := (hR i hne).1 hi
    rw [hr] at this; cases this
  subst hiz
  refine wpOp_mono (fun a' w' hq' => ?_) (hK a w hq)
  cases fuel with
  | zero => exact ⟨hr, hq'⟩
  | succ f => exact ⟨fun _ => hq', by rw [hr]; simp⟩
theorem any_sink (hs : Sink md ops z) (hN : ∀ e a w, Q' e a w → e = .normal) (hK : ∀ a w, Q' .normal a w → wpOp P ops Q z (Q .normal) a w) : ∀ (fuel : Nat) (listed : Array Bool) (a : Act) (w : World), listed.size = ops.size → listed.getD z true = false → Closed md ops z listed →
    wpAny P md ops Q' fuel (listed.setIfInBounds z true) a w → wpAny P md ops Q (fuel + 1) listed a w := by
  intro fuel
  induction fuel with
  | zero =>
    intro listed a w hsz hlz hcl h
    exact any_sink_end hs hN hK hsz hlz h.1 h.2 0
  | succ fuel ih =>
    intro listed a w hsz hlz hcl h
    by_cases hr : Region.ready md ops (listed.setIfInBounds z true) = []
    · exact any_sink_end hs hN hK hsz hlz hr (h.1 hr) _
    · obtain ⟨j, hj⟩ := List.exists_mem_of_ne_nil _ hr
      have hjz : j ≠ z := by
        rintro rfl
        have := (mem_ready.1 hj).1
        rw [getD_set_self (hsz ▸ hs.lt)] at this
        cases this
      have hR := any_ready hs (listed := listed)
      refine ⟨fun h0 => ?_, fun i hi => ?_⟩
      · have := (hR j hjz).2 hj
        rw [h0] at this; cases this
      · have hiz : i ≠ z := by
          rintro rfl
          obtain ⟨hj1, oj, hoj, _⟩ := mem_ready.1 hj
          have hjlt : j < ops.size := (Array.getElem?_eq_some_iff.1 hoj).1
          have := getD_tf (hs.before hcl hi ops.size j (by omega) hjlt hjz)
          rw [getD_set_ne true (Ne.symm hjz)] at hj1
          rw [this] at hj1; cases hj1
        have hcl2 : Closed md ops z (listed.setIfInBounds i true) := by
          intro j o ho hjz hj e he hb
          by_cases hji : j = i
          · subst hji
            obtain ⟨_, o', ho', hd'⟩ := mem_ready.1 hi
            rw [ho] at ho'; cases ho'
            exact getD_set_true (hd' e he hb)
          · rw [getD_set_ne false (Ne.symm hji)] at hj
            exact getD_set_true (hcl j o ho hjz hj e he hb)
        refine wpOp_only hN (fun a' w' h' => ?_) (h.2 i ((hR i hiz).1 hi))
        refine ih _ a' w' (by simpa using hsz) (by rw [getD_set_ne true hiz]; exact hlz) hcl2 ?_
        have e : (listed.setIfInBounds i true).setIfInBounds z true = (listed.setIfInBounds z true).setIfInBounds i true := by
          exact Array.setIfInBounds_comm true true hiz
        rw [e]; exact h'
def sinkB (ops : List Oper) (z : Nat) : Bool :=
  Nat.blt z ops.length && (List.range ops.length).all fun j => match ops[j]? with
    | some o => (o.after.all fun e => !Region.binds .any e || (!Nat.beq e.on z && Nat.blt e.on j)) && (Nat.beq j z || (List.range ops.length).any fun k => Region.waitsFor .any ops.toArray k j)
    | none => false
theorem sinkB_sound {ops : List Oper} (h : sinkB ops z = true) : Sink .any ops.toArray z := by
  unfold sinkB at h
  simp only [Bool.and_eq_true] at h
  obtain ⟨h1, h2⟩ := h
  have key : ∀ j o, ops[j]? = some o → (∀ e ∈ o.after, Region.binds .any e = true → e.on ≠ z ∧ e.on < j) ∧ (j = z ∨ ∃ k, Region.waitsFor .any ops.toArray k j = true) := by
    intro j o ho
    have hj : j < ops.length := (List.getElem?_eq_some_iff.1 ho).1
    have := List.all_eq_true.1 h2 j (List.mem_range.2 hj)
    rw [ho] at this
    simp only [Bool.and_eq_true, Bool.or_eq_true] at this
    refine ⟨fun e he hb => ?_, this.2.imp Nat.eq_of_beq_eq_true (fun h => by obtain ⟨k, _, hk⟩ := List.any_eq_true.1 h; exact ⟨k, hk⟩)⟩
    have := (Array.all_eq_true_iff_forall_mem.1 this.1) e he
    simp only [hb, Bool.not_true, Bool.false_or, Bool.and_eq_true, Bool.not_eq_true'] at this
    exact ⟨fun e2 => by rw [e2] at this; simp at this, by simpa using this.2⟩
  refine ⟨fun j o ho => (key j o (by simpa using ho)).1, fun i hi hne => ?_, by simpa using h1⟩
  have hi' : i < ops.length := by simpa using hi
  rcases (key i ops[i] (by simp [hi'])).2 with e | e
  · exact (hne e).elim
  · obtain ⟨k, e⟩ := e
    obtain ⟨oj, hoj, e, he, hb, hon⟩ := Region.waitsFor_spec e
    exact ⟨k, oj, hoj, e, he, hb, hon⟩
end
section
variable {P : Program} {n : Nat} {ops : List Oper} {Q : Post} {f : Frm} {C : World → Prop}
def zpost (P : Program) (n : Nat) (ops : List Oper) (oz : Oper) (Q : Post) : Post := fun e f w => e = .normal ∧ LW P n ops [oz] Q f (fun u => u = w)
/-- A drawn region whose operation z waits for all others: these first, with S held among them, then z. -/
theorem CW.reg_sink (z : Nat) {id : Nat} {oz : Oper} (S : World → Prop) [hm : Mixed P] [hc : Drawn C] (hz : ops[z]? = some oz) (hB : sinkB ops z = true) (h : DW P n ops (zpost P n ops oz Q) [z] S f C) : CW P n (.region id ops.toArray true) Q f C := by
  intro w hw a ha
  have h1 := wpAny_of_held _ _ _ _ (h _ (hc.drew w hw) a ha)
  have hs := sinkB_sound hB
  have hlt : z < ops.length := by simpa using hs.lt
  refine wp_region_any hm.mixed ?_
  have h2 := any_sink (Q' := lift n (only fun f w => zpost P n ops oz Q .normal f w)) (Q := lift n Q) hs (fun e a w ⟨_, _, he, _⟩ => he) (fun a w ⟨f, hf, _, _, hl⟩ => by
    have h3 := hl w rfl a hf
    have ho : ops.toArray[z]? = some oz := by simpa using hz
    unfold wpOp
    simp only [ho]
    simp only [wpList] at h3
    exact h3) (ops.length - 1) (Array.replicate ops.length false) a _ (by simp) (by simp [hlt]) (fun j o ho _ hj => by
      have hj' : j < ops.length := by simpa using (Array.getElem?_eq_some_iff.1 ho).1
      simp [hj'] at hj) (by simpa [lst] using h1)
  have e : ops.toArray.size = ops.length - 1 + 1 := by simp; omega
  rw [e]
  have e2 : (Array.replicate (ops.length - 1 + 1) false) = Array.replicate ops.length false := by congr 1; omega
  rw [e2]
  exact h2
theorem CW.reg_sinkC (z : Nat) {id : Nat} {oz : Oper} [hm : Mixed P] [hc : Drawn C] (hz : ops[z]? = some oz) (hB : sinkB ops z = true) (h : DW P n ops (zpost P n ops oz Q) [z] C f C) : CW P n (.region id ops.toArray true) Q f C := CW.reg_sink z C hz hB h
theorem At.sink {oz : Oper} (h : LR false P n ops [oz] Q f C) : At (zpost P n ops oz Q) .normal f C := fun w hw => ⟨rfl, fun u e => e ▸ h w hw⟩
end
end Go.Hb

namespace Go.Proofs.Ytomlgnncncjmaaa
open Go.Hb Go.ChangeShapes Go.WideShapes
attribute [local irreducible] LR CW At Ev thn blk finK noG again CallsTo DW QL dnext TW DP
set_option linter.unusedSimpArgs false
set_option linter.unusedVariables false
set_option maxRecDepth 100000

abbrev rB (b : Nat) (a : Option Addr) (c n : Nat) : Asrt := .own b (.cells [Value.slice a n c].toArray 116 (0, 0))
def sO (a : Option Addr) (c : Nat) (l : List MsgA) : Asrt := both (odB a c l) (bunB l)
theorem sO_dep (a : Option Addr) (c : Nat) (l : List MsgA) : (sO a c l).dep := both_dep (odl.dep _ _ _ _ _) (bun_dep MsgA.dep l)
def rO (b : Nat) (a : Option Addr) (c : Nat) (L : List MsgA) : Asrt := both (rB b a c L.length) (sO a c L)
theorem rO_dep (b : Nat) (a : Option Addr) (c : Nat) (L : List MsgA) : (rO b a c L).dep := both_dep (Asrt.dep_own _ _) (sO_dep a c L)
section
variable {w0 w : World} {F : Nat → Prop} {R : List Asrt} {b : Nat} {a : Option Addr} {c : Nat} {L : List MsgA}
theorem sO_open (h : St w0 F (sO a c L :: R) w) : St w0 F (odB a c L :: bunB L :: R) w := h.part (odl.dep _ _ _ _ _) (bun_dep MsgA.dep L)
theorem sO_shut (h : St w0 F (odB a c L :: bunB L :: R) w) : St w0 F (sO a c L :: R) w := h.join rfl rfl
theorem rO_open (h : St w0 F (rO b a c L :: R) w) : St w0 F (rB b a c L.length :: odB a c L :: bunB L :: R) w := by
  have h1 := h.part (Asrt.dep_own _ _) (sO_dep a c L)
  have h2 := sO_open h1.swap
  exact h2.perm (((List.Perm.swap (rB b a c L.length) (bunB L) R).cons (odB a c L)).trans (List.Perm.swap (rB b a c L.length) (odB a c L) (bunB L :: R)))
theorem rO_shut (h : St w0 F (rB b a c L.length :: odB a c L :: bunB L :: R) w) : St w0 F (rO b a c L :: R) w := by
  have h1 : St w0 F (odB a c L :: bunB L :: rB b a c L.length :: R) w := h.perm ((List.Perm.swap (odB a c L) (rB b a c L.length) (bunB L :: R)).trans ((List.Perm.swap (bunB L) (rB b a c L.length) R).cons (odB a c L)))
  exact (sO_shut h1).swap.join rfl rfl
end
instance : Build Try.prog 116 [.slice none 0 0] [(0, 1)] := ⟨fun w parts cells h => by
  simp only [Instr.build, Sem.run_bind, Try.zeroValue116, run_underlying Try.underlying116, Result.andThen_ok]
  simp only [List.mapM_toArray, List.mapM_cons, List.mapM_nil, Sem.run_bind, Sem.run_map, Sem.run_pure, Result.andThen_ok, pure_bind, bind_assoc, map_eq_pure_bind, Try.sizeOf69, Value.cells]
  rw [h]
  rfl⟩
theorem c39 (w : World) : CallsTo Try.prog 39 [] w fun v w' => ∃ b, v = .pointer (some ⟨b, 0, none⟩) ∧ St w NoF [rO b none 0 []] w' := by
  refine go_in (n := 3) (St.refl _ NoF) Try.func39 rfl rfl ?_
  repeat'(first|(apply kp;iterate 2 exact rfl)|apply jJ|(apply jE;exact rfl)|(apply jp;exact rfl)|(apply jc;kernel_rfl)|((first|apply kf|apply kn|apply ke|apply kx|apply kc|apply kb);iterate 2 exact rfl)|((first|apply kz|apply ky);(·exact rfl);(·repeat(first|exact iO|exact iR rfl|apply iT));iterate 2 exact rfl)|(apply kg;iterate 2 exact rfl)|(apply kG;iterate 3 exact rfl)|(apply kB;(iterate 2 exact rfl);intro _)|(apply kA;exact rfl;intro _)|(apply kK;(iterate 4 exact rfl);intro _)|(apply kU;(iterate 2 exact rfl);(·repeat(first|exact sH _ _ _|apply sT));(first|exact nfL_eq rfl|exact rfl);exact rfl)|((first|apply kh|apply kl);(iterate 2 exact rfl);(first|decide|omega);exact rfl)|((first|(apply kR;iterate 2 exact rfl)|(apply kQ;exact rfl));all_goals(intro hc;try simp only[hcs]at hc;try(exfalso;first|contradiction|omega))))
  (apply ret1; (· exact rfl); intro w' hS)
  refine ⟨_, rfl, ?_⟩
  have h1 := ((hS.bun_nil MsgA.dep).nilsl 28 13).osl_odl (sH _ _ _)
  exact rO_shut (front h1 2 rfl rfl)
theorem c47 (b : Nat) (a : Option Addr) (c n : Nat) (w : World) (h : Rd w (some ⟨b, 0, none⟩) [.slice a n c]) : CallsTo Try.prog 47 [.pointer (some ⟨b, 0, none⟩)] w fun v w' => v = .int .i64 (n : Int) ∧ Grew w w' := by
  refine go_in (n := 8) (St.rd1 h) Try.func47 rfl rfl ?_
  repeat'(first|(apply kp;iterate 2 exact rfl)|apply jJ|(apply jE;exact rfl)|(apply jp;exact rfl)|(apply jc;kernel_rfl)|((first|apply kf|apply kn|apply ke|apply kx|apply kc|apply kb);iterate 2 exact rfl)|((first|apply kz|apply ky);(·exact rfl);(·repeat(first|exact iO|exact iR rfl|apply iT));iterate 2 exact rfl)|(apply kg;iterate 2 exact rfl)|(apply kG;iterate 3 exact rfl)|(apply kB;(iterate 2 exact rfl);intro _)|(apply kA;exact rfl;intro _)|(apply kK;(iterate 4 exact rfl);intro _)|(apply kU;(iterate 2 exact rfl);(·repeat(first|exact sH _ _ _|apply sT));(first|exact nfL_eq rfl|exact rfl);exact rfl)|((first|apply kh|apply kl);(iterate 2 exact rfl);(first|decide|omega);exact rfl)|((first|(apply kR;iterate 2 exact rfl)|(apply kQ;exact rfl));all_goals(intro hc;try simp only[hcs]at hc;try(exfalso;first|contradiction|omega))))
  (apply ret1; (· exact rfl); intro w' hS)
  exact ⟨rfl, hS.toKeep⟩
theorem c49 (b : Nat) (a : Option Addr) (c n : Nat) (w : World) (h : Rd w (some ⟨b, 0, none⟩) [.slice a n c]) (hn : n ≤ 140737488355328) : CallsTo Try.prog 49 [.pointer (some ⟨b, 0, none⟩)] w fun v w' => v = .int .i64 (32 - (n : Int)) ∧ Grew w w' := by
  refine go_in (n := 9) (St.rd1 h) Try.func49 rfl rfl ?_
  repeat'(first|(apply kp;iterate 2 exact rfl)|apply jJ|(apply jE;exact rfl)|(apply jp;exact rfl)|(apply jc;kernel_rfl)|((first|apply kf|apply kn|apply ke|apply kx|apply kc|apply kb);iterate 2 exact rfl)|((first|apply kz|apply ky);(·exact rfl);(·repeat(first|exact iO|exact iR rfl|apply iT));iterate 2 exact rfl)|(apply kg;iterate 2 exact rfl)|(apply kG;iterate 3 exact rfl)|(apply kB;(iterate 2 exact rfl);intro _)|(apply kA;exact rfl;intro _)|(apply kK;(iterate 4 exact rfl);intro _)|(apply kU;(iterate 2 exact rfl);(·repeat(first|exact sH _ _ _|apply sT));(first|exact nfL_eq rfl|exact rfl);exact rfl)|((first|apply kh|apply kl);(iterate 2 exact rfl);(first|decide|omega);exact rfl)|(apply subX;(iterate 2 exact rfl);(iterate 2(first|omega|(dsimp only;omega)));exact rfl)|((first|(apply kR;iterate 2 exact rfl)|(apply kQ;exact rfl));all_goals(intro hc;try simp only[hcs]at hc;try(exfalso;first|contradiction|omega))))
  (apply ret1; (· exact rfl); intro w' hS)
  exact ⟨rfl, hS.toKeep⟩
theorem odB_snoc (a : Option Addr) (c : Nat) (l : List MsgA) (x : MsgA) : odl (.slice a (l.length + 1) c) 28 13 (l.length + 1) (l.flatMap MsgA.row ++ x.row) = odB a c (l ++ [x]) := by simp [odB]
set_option maxHeartbeats 4000000 in
theorem c42 (b : Nat) (a : Option Addr) (c : Nat) (L : List MsgA) (al : Option Addr) (cl : Nat) (l : List MsgA) (w : World) (h : (rO b a c L).holds w) (hL : L.length ≤ 32)
    (hr : Rd w al (l.flatMap MsgA.row)) (hd : ∀ k, rdFoot al (l.flatMap MsgA.row) k → ¬ (rO b a c L).foot k) (hR : ∀ x ∈ l, MR w x) (hRd : ∀ x ∈ l, ∀ k, rdFoot x.a (bv x.m.body) k → ¬ (rO b a c L).foot k) (hm : l.length ≤ 140737488355328) :
    CallsTo Try.prog 42 [.pointer (some ⟨b, 0, none⟩), .slice al l.length cl] w fun v w' => ∃ a' c' L', v = .int .i64 (qputE L.length l) ∧ L'.map MsgA.m = L.map MsgA.m ++ (if qputE L.length l = 0 then l.map MsgA.m else []) ∧ Step (rO b a c L) (rO b a' c' L') w w' := by
  have hS0 := St.one h (both_live h) (rO_dep b a c L)
  have hS1 := rO_open (front (hS0.addRd hr hd) 1 rfl rfl)
  have fin : ∀ (a' : Option Addr) (c' : Nat) (L' : List MsgA) (R : List Asrt) (w' : World), St w (rO b a c L).foot (rB b a' c' L'.length :: odB a' c' L' :: bunB L' :: R) w' → Step (rO b a c L) (rO b a' c' L') w w' := fun a' c' L' R w' hS => (rO_shut hS).step rfl
  generalize hF : (rO b a c L).foot = F at *
  have old : ∀ {L1 : List Asrt} {w1 : World}, St w F L1 w1 → ∀ x ∈ l, Rd w1 x.a (bv x.m.body) := fun h1 x hx => h1.oldRdF (hR x hx).hr (hRd x hx)
  refine go_in (n := 44) (hS1.cast (L' := [rB b a c L.length, odB a c L, bunB L, rdA al (l.flatMap MsgA.row)]) rfl) Try.func42 rfl rfl ?_
  repeat'(first|(apply kp;iterate 2 exact rfl)|apply jJ|(apply jE;exact rfl)|(apply jp;exact rfl)|(apply jc;kernel_rfl)|((first|apply kf|apply kn|apply ke|apply kx|apply kc|apply kb);iterate 2 exact rfl)|((first|apply kz|apply ky);(·exact rfl);(·repeat(first|exact iO|exact iR rfl|apply iT));iterate 2 exact rfl)|(apply kg;iterate 2 exact rfl)|(apply kG;iterate 3 exact rfl)|(apply kB;(iterate 2 exact rfl);intro _)|(apply kA;exact rfl;intro _)|(apply kK;(iterate 4 exact rfl);intro _)|(apply kU;(iterate 2 exact rfl);(·repeat(first|exact sH _ _ _|apply sT));(first|exact nfL_eq rfl|exact rfl);exact rfl)|((first|apply kh|apply kl);(iterate 2 exact rfl);(first|decide|omega);exact rfl)|((first|(apply kR;iterate 2 exact rfl)|(apply kQ;exact rfl));all_goals(intro hc;try simp only[hcs]at hc;try(exfalso;first|contradiction|omega))))
  apply CW.loop [4, 5, 7, 8, 9, 10, 11, 12, 13, 14, 15, 16, 17, 18] (fun i : Nat => i ≤ l.length ∧ ∀ x ∈ l.take i, check x.m = 0) (fun i => [(5, Value.int .i64 (i : Int))]) (fun i => St w F [rB b a c L.length, odB a c L, bunB L, rdA al (l.flatMap MsgA.row)]) (fun i => l.length - i)
  · exact fun w' hw' => ⟨0, ⟨by omega, by simp⟩, ⟨rfl, trivial⟩, hw'⟩
  intro i g ⟨hi, hck⟩
  by_cases hlt : i < l.length
  · obtain ⟨ba, oa, rfl⟩ := hr.form (rows_ne MsgA.row_len (by omega) hlt)
    have hx := hR _ (List.getElem_mem hlt)
    repeat'(first|(apply kp;iterate 2 exact rfl)|apply jJ|(apply jE;exact rfl)|(apply jp;exact rfl)|(apply jc;kernel_rfl)|((first|apply kf|apply kn|apply ke|apply kx|apply kc|apply kb);iterate 2 exact rfl)|((first|apply kz|apply ky);(·exact rfl);(·repeat(first|exact iO|exact iR rfl|apply iT));iterate 2 exact rfl)|(apply kg;iterate 2 exact rfl)|(apply kG;iterate 3 exact rfl)|(apply kB;(iterate 2 exact rfl);intro _)|(apply kA;exact rfl;intro _)|(apply kK;(iterate 4 exact rfl);intro _)|(apply kU;(iterate 2 exact rfl);(·repeat(first|exact sH _ _ _|apply sT));(first|exact nfL_eq rfl|exact rfl);exact rfl)|((first|apply kh|apply kl);(iterate 2 exact rfl);(first|decide|omega);exact rfl)|(apply idxX;(iterate 2 exact rfl);(iterate 2(first|omega|(dsimp only;omega)));exact rfl)|(apply LR.ev; (· apply Ev.load_agg_at (cs := l[i].row); (· exact rfl); (· exact rfl); (· intro w' hw'; exact rd_row MsgA.row_len (hw'.rd_of (by (repeat (first | exact mH _ _ | apply mT)))) hlt (by simp))); (· exact rfl))|(apply kq; (· exact rfl); (· intro w1 h1; have hq := CallsTo.q (d18 l[i].m l[i].a l[i].c w1 (old h1 _ (List.getElem_mem hlt)) hx.hz hx.hm hx.hb) h1; show CallsTo Try.prog 18 [l[i].m.val l[i].a l[i].c] w1 _; exact hq))|(apply addX;(iterate 2 exact rfl);(iterate 2(first|omega|(dsimp only;omega)));exact rfl)|((first|(apply kR;iterate 2 exact rfl)|(apply kQ;exact rfl));all_goals(intro hc;try simp only[hcs]at hc;try(exfalso;first|contradiction|omega))))
    · (apply ret1; (· exact rfl); intro w' hS)
      have e : qputE L.length l = 2 := by
        unfold qputE
        rw [if_pos]
        rw [List.any_eq_true]
        exact ⟨l[i], List.getElem_mem hlt, by simpa using hc⟩
      rw [e]
      exact ⟨a, c, L, rfl, by simp, fin a c L _ w' (hS.sub (by repeat (first | exact List.Sublist.refl _ | apply List.Sublist.cons_cons | apply List.Sublist.cons)))⟩
    · apply At.again (i + 1)
      · refine ⟨by show i + 1 ≤ _; omega, fun x hx2 => ?_⟩
        rw [List.take_succ_eq_append_getElem hlt] at hx2
        rcases List.mem_append.1 hx2 with hx2 | hx2
        · exact hck x hx2
        · have : x = l[i] := by simpa using hx2
          subst this; exact hc
      · (repeat (first | exact Out.refl _ _ | exact Out.mix | (apply Out.upd; (· exact rfl)) | (apply Out.updL; (· exact rfl)) | (apply Out.mixs; (· exact rfl))))
      · exact ⟨rfl, trivial⟩
      · exact fun w' hw' => hw'.sub (by repeat (first | exact List.Sublist.refl _ | apply List.Sublist.cons_cons | apply List.Sublist.cons))
      · omega
  · rw [List.take_of_length_le (by omega)] at hck
    by_cases hfull : 32 < L.length + l.length
    · repeat'(first|(apply kp;iterate 2 exact rfl)|apply jJ|(apply jE;exact rfl)|(apply jp;exact rfl)|(apply jc;kernel_rfl)|((first|apply kf|apply kn|apply ke|apply kx|apply kc|apply kb);iterate 2 exact rfl)|((first|apply kz|apply ky);(·exact rfl);(·repeat(first|exact iO|exact iR rfl|apply iT));iterate 2 exact rfl)|(apply kg;iterate 2 exact rfl)|(apply kG;iterate 3 exact rfl)|(apply kB;(iterate 2 exact rfl);intro _)|(apply kA;exact rfl;intro _)|(apply kK;(iterate 4 exact rfl);intro _)|(apply kU;(iterate 2 exact rfl);(·repeat(first|exact sH _ _ _|apply sT));(first|exact nfL_eq rfl|exact rfl);exact rfl)|((first|apply kh|apply kl);(iterate 2 exact rfl);(first|decide|omega);exact rfl)|(apply kq; (· exact rfl); (· intro w1 h1; exact CallsTo.q (c49 b a c L.length w1 (h1.rd_of_blk (by (repeat (first | exact mH _ _ | apply mT)))) (by omega)) h1))|((first|(apply kR;iterate 2 exact rfl)|(apply kQ;exact rfl));all_goals(intro hc;try simp only[hcs]at hc;try(exfalso;first|contradiction|omega))))
      (apply ret1; (· exact rfl); intro w' hS)
      rw [qputE_full hck hfull hL]
      exact ⟨a, c, L, rfl, by simp, fin a c L _ w' (hS.sub (by repeat (first | exact List.Sublist.refl _ | apply List.Sublist.cons_cons | apply List.Sublist.cons)))⟩
    · rw [qputE_ok (n := L.length) hck (by omega)]
      repeat'(first|(apply kp;iterate 2 exact rfl)|apply jJ|(apply jE;exact rfl)|(apply jp;exact rfl)|(apply jc;kernel_rfl)|((first|apply kf|apply kn|apply ke|apply kx|apply kc|apply kb);iterate 2 exact rfl)|((first|apply kz|apply ky);(·exact rfl);(·repeat(first|exact iO|exact iR rfl|apply iT));iterate 2 exact rfl)|(apply kg;iterate 2 exact rfl)|(apply kG;iterate 3 exact rfl)|(apply kB;(iterate 2 exact rfl);intro _)|(apply kA;exact rfl;intro _)|(apply kK;(iterate 4 exact rfl);intro _)|(apply kU;(iterate 2 exact rfl);(·repeat(first|exact sH _ _ _|apply sT));(first|exact nfL_eq rfl|exact rfl);exact rfl)|((first|apply kh|apply kl);(iterate 2 exact rfl);(first|decide|omega);exact rfl)|(apply kq; (· exact rfl); (· intro w1 h1; exact CallsTo.q (c49 b a c L.length w1 (h1.rd_of_blk (by (repeat (first | exact mH _ _ | apply mT)))) (by omega)) h1))|((first|(apply kR;iterate 2 exact rfl)|(apply kQ;exact rfl));all_goals(intro hc;try simp only[hcs]at hc;try(exfalso;first|contradiction|omega))))
      apply CW.loop [6, 24, 25, 26, 27, 28, 29, 30, 31, 32, 33, 34, 35, 36, 37, 38, 39, 40, 41, 42, 43] (fun s : Nat × Option Addr × Nat × List MsgA => s.1 ≤ l.length ∧ s.2.2.2.map MsgA.m = L.map MsgA.m ++ (l.take s.1).map MsgA.m) (fun s => [(6, Value.int .i64 (s.1 : Int))])
        (fun s => St w F [rB b s.2.1 s.2.2.1 s.2.2.2.length, odB s.2.1 s.2.2.1 s.2.2.2, bunB s.2.2.2, rdA al (l.flatMap MsgA.row)]) (fun s => l.length - s.1)
      · exact fun w' hw' => ⟨(0, a, c, L), ⟨by simp, by simp⟩, ⟨rfl, trivial⟩, hw'⟩
      rintro ⟨j, a2, c2, L2⟩ g2 ⟨hj, hl2⟩
      simp only at hj hl2 ⊢
      have hlen : L2.length = L.length + j := by have := congrArg List.length hl2; simp at this; omega
      by_cases hlt2 : j < l.length
      · obtain ⟨ba, oa, rfl⟩ := hr.form (rows_ne MsgA.row_len (by omega) hlt2)
        have hx := hR _ (List.getElem_mem hlt2)
        repeat'(first|(apply kp;iterate 2 exact rfl)|apply jJ|(apply jE;exact rfl)|(apply jp;exact rfl)|((first|apply kf|apply kn|apply ke|apply kx|apply kc|apply kb);iterate 2 exact rfl)|((first|apply kz|apply ky);(·exact rfl);(·repeat(first|exact iO|exact iR rfl|apply iT));iterate 2 exact rfl)|(apply kg;iterate 2 exact rfl)|(apply kG;iterate 3 exact rfl)|(apply kB;(iterate 2 exact rfl);intro _)|(apply kA;exact rfl;intro _)|(apply kK;(iterate 4 exact rfl);intro _)|(apply kU;(iterate 2 exact rfl);(·repeat(first|exact sH _ _ _|apply sT));(first|exact nfL_eq rfl|exact rfl);exact rfl)|((first|apply kh|apply kl);(iterate 2 exact rfl);(first|decide|omega);exact rfl)|((first|(apply kR;iterate 2 exact rfl)|(apply kQ;exact rfl));all_goals(intro hc;try simp only[hcs]at hc;try(exfalso;first|contradiction|omega))))
        apply CW.reg_sink 14 (St w F [rB b a2 c2 L2.length, rdA (some ⟨ba, oa, none⟩) (l.flatMap MsgA.row)])
        · exact rfl
        · decide +kernel
        all_goals (
          apply DW.quiet [0, 1, 2, 3, 4, 5, 6, 7, 8]
          · decide +kernel
          · first | exact fun _ h => h | exact fun _ h => St.sub h (by repeat (first | exact List.Sublist.refl _ | apply List.Sublist.cons_cons | apply List.Sublist.cons))
          repeat'(first|(apply yp;iterate 3 exact rfl)|(apply QL.ev;(·exact rfl);(·first|((first|apply Ez|apply Ey);(·exact rfl);(·repeat(first|exact iO|exact iR rfl|apply iT));exact rfl)|((first|apply Ev.fieldAddr|apply Ev.len|apply EqOf.eq|apply EqOf.ne|apply Ev.conv|apply Ev.buildN);exact rfl)|((first|apply Ev.shr|apply Ev.shl);(iterate 2 exact rfl);first|decide|omega));·exact rfl)|(apply QL.ev; (· exact rfl); (· first | (apply Ev.indexAddr; (· exact rfl); (· exact rfl); (· omega); (· omega)) | (apply Ev.load_agg_at (cs := l[j].row); (· exact rfl); (· exact rfl); (· intro w' hw'; exact rd_row MsgA.row_len (hw'.rd_of (by (repeat (first | exact mH _ _ | apply mT)))) hlt2 (by simp)))); (· exact rfl))|(apply yq;iterate 5 exact rfl)|(apply QL.evg;(iterate 3 exact rfl);(·first|((first|apply Ez|apply Ey);(·exact rfl);(·repeat(first|exact iO|exact iR rfl|apply iT));exact rfl)|((first|apply Ev.fieldAddr|apply Ev.len|apply EqOf.eq|apply EqOf.ne|apply Ev.conv|apply Ev.buildN);exact rfl)|((first|apply Ev.shr|apply Ev.shl);(iterate 2 exact rfl);first|decide|omega));·exact rfl)|(apply yn;iterate 4 exact rfl)|((apply QL.split;iterate 3 exact rfl);all_goals(intro hc;try simp only[hcs]at hc;try(exfalso;first|contradiction|omega)))|apply QL.nil)
          all_goals (show DW _ _ _ _ _ _ _ _))
        all_goals (
          apply DW.loud 9
          · exact rfl
          · decide +kernel
          repeat'(first|(apply kg;iterate 2 exact rfl)|(apply kG;iterate 3 exact rfl)|apply kM|(apply kp;iterate 2 exact rfl)|((first|apply kz|apply ky);(·exact rfl);(·repeat(first|exact iO|exact iR rfl|apply iT));iterate 2 exact rfl)|(apply kK;(iterate 4 exact rfl);intro _)|(apply kU;(iterate 2 exact rfl);(·repeat(first|exact sH _ _ _|apply sT));(first|exact nfL_eq rfl|exact rfl);exact rfl)|(apply kB;(iterate 2 exact rfl);intro _)|(apply kA;exact rfl;intro _)|(apply LR.call; (· exact rfl); (intro w1 h1; have hh := c14 l[j].m l[j].a l[j].c w1 (old h1 _ (List.getElem_mem hlt2)) hx.hz hx.hm; refine CallsTo.mono hh ?_; clear hh; rintro v w2 ⟨a1, c1, rfl, hn1⟩; refine LR.back (h1.newSl hn1) ?_; clear hn1 h1; apply kM))|(apply LR.append_odl (a := a2) (k := L2.length) (c := c2) (xs := L2.flatMap MsgA.row) (news := MsgA.row ⟨l[j].m, a1, c1⟩) (m := 1); (· exact rfl); (· exact rfl); (· intro a' c'; (repeat (first | exact sH _ _ _ | apply sT))); (· intro w' hw'; exact hw'.rd_of_blk (mH _ _)); (· intro hx; cases hx); (· exact rfl); (· simp [MsgA.row, Msg.cells, Value.oneCell']); (· omega); (· unfold maxLen; omega); (· exact rfl); (intro ay cy; apply kM)))
          all_goals (refine At.stage_same (fun _ h => St.sub h (by repeat (first | exact List.Sublist.refl _ | apply List.Sublist.cons_cons | apply List.Sublist.cons))) ?_))
        all_goals (
          apply DW.loud 10
          · exact rfl
          · decide +kernel
          repeat'(first|(apply kg;iterate 2 exact rfl)|(apply kG;iterate 3 exact rfl)|apply kM|(apply kp;iterate 2 exact rfl)|((first|apply kz|apply ky);(·exact rfl);(·repeat(first|exact iO|exact iR rfl|apply iT));iterate 2 exact rfl)|(apply kK;(iterate 4 exact rfl);intro _)|(apply kU;(iterate 2 exact rfl);(·repeat(first|exact sH _ _ _|apply sT));(first|exact nfL_eq rfl|exact rfl);exact rfl)|(apply kB;(iterate 2 exact rfl);intro _)|(apply kA;exact rfl;intro _)|(apply LR.call; (· exact rfl); (intro w1 h1; have hh := c14 l[j].m l[j].a l[j].c w1 (old h1 _ (List.getElem_mem hlt2)) hx.hz hx.hm; refine CallsTo.mono hh ?_; clear hh; rintro v w2 ⟨a1, c1, rfl, hn1⟩; refine LR.back (h1.newSl hn1) ?_; clear hn1 h1; apply kM))|(apply LR.append_odl (a := a2) (k := L2.length) (c := c2) (xs := L2.flatMap MsgA.row) (news := MsgA.row ⟨l[j].m, a1, c1⟩) (m := 1); (· exact rfl); (· exact rfl); (· intro a' c'; (repeat (first | exact sH _ _ _ | apply sT))); (· intro w' hw'; exact hw'.rd_of_blk (mH _ _)); (· intro hx; cases hx); (· exact rfl); (· simp [MsgA.row, Msg.cells, Value.oneCell']); (· omega); (· unfold maxLen; omega); (· exact rfl); (intro ay cy; apply kM)))
          all_goals (refine At.stage_same (fun _ h => St.sub h (by repeat (first | exact List.Sublist.refl _ | apply List.Sublist.cons_cons | apply List.Sublist.cons))) ?_))
        all_goals (
          apply DW.loud 11
          · exact rfl
          · decide +kernel
          repeat'(first|(apply kg;iterate 2 exact rfl)|(apply kG;iterate 3 exact rfl)|apply kM|(apply kp;iterate 2 exact rfl)|((first|apply kz|apply ky);(·exact rfl);(·repeat(first|exact iO|exact iR rfl|apply iT));iterate 2 exact rfl)|(apply kK;(iterate 4 exact rfl);intro _)|(apply kU;(iterate 2 exact rfl);(·repeat(first|exact sH _ _ _|apply sT));(first|exact nfL_eq rfl|exact rfl);exact rfl)|(apply kB;(iterate 2 exact rfl);intro _)|(apply kA;exact rfl;intro _)|(apply LR.call; (· exact rfl); (intro w1 h1; have hh := c14 l[j].m l[j].a l[j].c w1 (old h1 _ (List.getElem_mem hlt2)) hx.hz hx.hm; refine CallsTo.mono hh ?_; clear hh; rintro v w2 ⟨a1, c1, rfl, hn1⟩; refine LR.back (h1.newSl hn1) ?_; clear hn1 h1; apply kM))|(apply LR.append_odl (a := a2) (k := L2.length) (c := c2) (xs := L2.flatMap MsgA.row) (news := MsgA.row ⟨l[j].m, a1, c1⟩) (m := 1); (· exact rfl); (· exact rfl); (· intro a' c'; (repeat (first | exact sH _ _ _ | apply sT))); (· intro w' hw'; exact hw'.rd_of_blk (mH _ _)); (· intro hx; cases hx); (· exact rfl); (· simp [MsgA.row, Msg.cells, Value.oneCell']); (· omega); (· unfold maxLen; omega); (· exact rfl); (intro ay cy; apply kM)))
          all_goals (refine At.stage_same (fun _ h => St.sub h (by repeat (first | exact List.Sublist.refl _ | apply List.Sublist.cons_cons | apply List.Sublist.cons))) ?_))
        all_goals (
          apply DW.quiet [12, 13]
          · decide +kernel
          · first | exact fun _ h => h | exact fun _ h => St.sub h (by repeat (first | exact List.Sublist.refl _ | apply List.Sublist.cons_cons | apply List.Sublist.cons))
          repeat'(first|(apply yp;iterate 3 exact rfl)|(apply QL.ev;(·exact rfl);(·first|((first|apply Ez|apply Ey);(·exact rfl);(·repeat(first|exact iO|exact iR rfl|apply iT));exact rfl)|((first|apply Ev.fieldAddr|apply Ev.len|apply EqOf.eq|apply EqOf.ne|apply Ev.conv|apply Ev.buildN);exact rfl)|((first|apply Ev.shr|apply Ev.shl);(iterate 2 exact rfl);first|decide|omega));·exact rfl)|(apply QL.ev; (· exact rfl); (· first | (apply Ev.indexAddr; (· exact rfl); (· exact rfl); (· omega); (· omega)) | (apply Ev.load_agg_at (cs := l[j].row); (· exact rfl); (· exact rfl); (· intro w' hw'; exact rd_row MsgA.row_len (hw'.rd_of (by (repeat (first | exact mH _ _ | apply mT)))) hlt2 (by simp)))); (· exact rfl))|(apply yq;iterate 5 exact rfl)|(apply QL.evg;(iterate 3 exact rfl);(·first|((first|apply Ez|apply Ey);(·exact rfl);(·repeat(first|exact iO|exact iR rfl|apply iT));exact rfl)|((first|apply Ev.fieldAddr|apply Ev.len|apply EqOf.eq|apply EqOf.ne|apply Ev.conv|apply Ev.buildN);exact rfl)|((first|apply Ev.shr|apply Ev.shl);(iterate 2 exact rfl);first|decide|omega));·exact rfl)|(apply yn;iterate 4 exact rfl)|((apply QL.split;iterate 3 exact rfl);all_goals(intro hc;try simp only[hcs]at hc;try(exfalso;first|contradiction|omega)))|apply QL.nil)
          all_goals (show DW _ _ _ _ _ _ _ _))
        all_goals (apply DW.done; (· decide +kernel))
        all_goals apply At.sink
        repeat'(first|(apply kp;iterate 2 exact rfl)|apply jJ|(apply jE;exact rfl)|(apply jp;exact rfl)|(apply jc;kernel_rfl)|((first|apply kf|apply kn|apply ke|apply kx|apply kc|apply kb);iterate 2 exact rfl)|((first|apply kz|apply ky);(·exact rfl);(·repeat(first|exact iO|exact iR rfl|apply iT));iterate 2 exact rfl)|(apply kg;iterate 2 exact rfl)|(apply kG;iterate 3 exact rfl)|(apply kB;(iterate 2 exact rfl);intro _)|(apply kA;exact rfl;intro _)|(apply kK;(iterate 4 exact rfl);intro _)|(apply kU;(iterate 2 exact rfl);(·repeat(first|exact sH _ _ _|apply sT));(first|exact nfL_eq rfl|exact rfl);exact rfl)|((first|apply kh|apply kl);(iterate 2 exact rfl);(first|decide|omega);exact rfl)|(apply addX;(iterate 2 exact rfl);(iterate 2(first|omega|(dsimp only;omega)));exact rfl)|((first|(apply kR;iterate 2 exact rfl)|(apply kQ;exact rfl));all_goals(intro hc;try simp only[hcs]at hc;try(exfalso;first|contradiction|omega))))
        apply At.again (j + 1, ay, cy, L2 ++ [⟨l[j].m, a1, c1⟩])
        · refine ⟨by show j + 1 ≤ _; omega, ?_⟩
          show (L2 ++ [MsgA.mk l[j].m a1 c1]).map MsgA.m = L.map MsgA.m ++ (l.take (j + 1)).map MsgA.m
          rw [List.take_succ_eq_append_getElem hlt2, List.map_append, List.map_append, hl2, List.append_assoc]
          rfl
        · (repeat (first | exact Out.refl _ _ | exact Out.mix | (apply Out.upd; (· exact rfl)) | (apply Out.updL; (· exact rfl)) | (apply Out.mixs; (· exact rfl))))
        · exact ⟨rfl, trivial⟩
        · intro w' hw'
          have h2 := St.bun_snoc (f := MsgA.body) (x := ⟨l[j].m, a1, c1⟩) (l := L2) MsgA.dep MsgA.ex (front (front hw' 4 rfl rfl) 2 rfl rfl)
          have h3 := front (front h2 3 rfl rfl) 3 rfl rfl
          have h4 : St w F [rB b ay cy (L2.length + 1), odl (.slice ay (L2.length + 1) cy) 28 13 (L2.length + 1) (L2.flatMap MsgA.row ++ MsgA.row ⟨l[j].m, a1, c1⟩), bunB (L2 ++ [⟨l[j].m, a1, c1⟩]), rdA (some ⟨ba, oa, none⟩) (l.flatMap MsgA.row)] w' := h3.sub (by repeat (first | exact List.Sublist.refl _ | apply List.Sublist.cons_cons | apply List.Sublist.cons))
          rw [odB_snoc, show rB b ay cy (L2.length + 1) = rB b ay cy (L2 ++ [MsgA.mk l[j].m a1 c1]).length by simp] at h4
          exact h4
        · show l.length - (j + 1) < l.length - j
          omega
      · repeat'(first|(apply kp;iterate 2 exact rfl)|apply jJ|(apply jE;exact rfl)|(apply jp;exact rfl)|(apply jc;kernel_rfl)|((first|apply kf|apply kn|apply ke|apply kx|apply kc|apply kb);iterate 2 exact rfl)|((first|apply kz|apply ky);(·exact rfl);(·repeat(first|exact iO|exact iR rfl|apply iT));iterate 2 exact rfl)|(apply kg;iterate 2 exact rfl)|(apply kG;iterate 3 exact rfl)|(apply kB;(iterate 2 exact rfl);intro _)|(apply kA;exact rfl;intro _)|(apply kK;(iterate 4 exact rfl);intro _)|(apply kU;(iterate 2 exact rfl);(·repeat(first|exact sH _ _ _|apply sT));(first|exact nfL_eq rfl|exact rfl);exact rfl)|((first|apply kh|apply kl);(iterate 2 exact rfl);(first|decide|omega);exact rfl)|((first|(apply kR;iterate 2 exact rfl)|(apply kQ;exact rfl));all_goals(intro hc;try simp only[hcs]at hc;try(exfalso;first|contradiction|omega))))
        (apply ret1; (· exact rfl); intro w' hS)
        rw [List.take_of_length_le (by omega)] at hl2
        exact ⟨a2, c2, L2, rfl, by simpa using hl2, fin a2 c2 L2 _ w' hS⟩
end Go.Proofs.Ytomlgnncncjmaaa

namespace Go.Proofs.Ytomlgnncncjmaaa
open Go.Hb Go.ChangeShapes Go.WideShapes
attribute [local irreducible] LR CW At Ev thn blk finK noG again CallsTo DW QL dnext TW DP
set_option linter.unusedSimpArgs false
set_option linter.unusedVariables false
set_option maxRecDepth 100000

theorem c45e (b : Nat) (a : Option Addr) (c : Nat) (w : World) (h : Rd w (some ⟨b, 0, none⟩) [.slice a 0 c]) : CallsTo Try.prog 45 [.pointer (some ⟨b, 0, none⟩)] w fun v w' => v = .tuple [zeroMsg.val none 0, .int .i64 8].toArray ∧ Grew w w' := by
  refine go_in (n := 27) (St.rd1 h) Try.func45 rfl rfl ?_
  repeat'(first|(apply kp;iterate 2 exact rfl)|apply jJ|(apply jE;exact rfl)|(apply jp;exact rfl)|(apply jc;kernel_rfl)|((first|apply kf|apply kn|apply ke|apply kx|apply kc|apply kb);iterate 2 exact rfl)|((first|apply kz|apply ky);(·exact rfl);(·repeat(first|exact iO|exact iR rfl|apply iT));iterate 2 exact rfl)|(apply kg;iterate 2 exact rfl)|(apply kG;iterate 3 exact rfl)|(apply kB;(iterate 2 exact rfl);intro _)|(apply kA;exact rfl;intro _)|(apply kK;(iterate 4 exact rfl);intro _)|(apply kU;(iterate 2 exact rfl);(·repeat(first|exact sH _ _ _|apply sT));(first|exact nfL_eq rfl|exact rfl);exact rfl)|((first|apply kh|apply kl);(iterate 2 exact rfl);(first|decide|omega);exact rfl)|((first|(apply kR;iterate 2 exact rfl)|(apply kQ;exact rfl));all_goals(intro hc;try simp only[hcs]at hc;try(exfalso;first|contradiction|omega))))
  (apply ret2c; (· exact rfl); (· exact inferInstance); (· exact rfl); (· (repeat (first | exact List.Mem.head _ | apply List.Mem.tail))); (· exact rfl); intro w' hS)
  exact ⟨rfl, hS.toKeep⟩
set_option maxHeartbeats 1000000 in
theorem c45 (b : Nat) (a : Option Addr) (c : Nat) (x : MsgA) (L : List MsgA) (w : World) (h : (rO b a c (x :: L)).holds w) :
    CallsTo Try.prog 45 [.pointer (some ⟨b, 0, none⟩)] w fun v w' => v = .tuple [x.m.val x.a x.c, .int .i64 0].toArray ∧ ∃ a' c', St w (rO b a c (x :: L)).foot [rO b a' c' L, x.body] w' := by
  have hS1 := rO_open (St.one h (both_live h) (rO_dep b a c (x :: L)))
  generalize hF : (rO b a c (x :: L)).foot = F at *
  obtain ⟨by_, oy, rfl⟩ := (ownsAt_rd hS1.g1).form (by simp [MsgA.row, Msg.cells])
  have hl : (x :: L).length = L.length + 1 := rfl
  refine go_in (n := 27) hS1 Try.func45 rfl rfl ?_
  repeat'(first|(apply kp;iterate 2 exact rfl)|apply jJ|(apply jE;exact rfl)|(apply jp;exact rfl)|(apply jc;kernel_rfl)|((first|apply kf|apply kn|apply ke|apply kx|apply kc|apply kb);iterate 2 exact rfl)|((first|apply kz|apply ky);(·exact rfl);(·repeat(first|exact iO|exact iR rfl|apply iT));iterate 2 exact rfl)|(apply kg;iterate 2 exact rfl)|(apply kG;iterate 3 exact rfl)|(apply kB;(iterate 2 exact rfl);intro _)|(apply kA;exact rfl;intro _)|(apply kK;(iterate 4 exact rfl);intro _)|(apply kU;(iterate 2 exact rfl);(·repeat(first|exact sH _ _ _|apply sT));(first|exact nfL_eq rfl|exact rfl);exact rfl)|((first|apply kh|apply kl);(iterate 2 exact rfl);(first|decide|omega);exact rfl)|(apply idxX;(iterate 2 exact rfl);(iterate 2(first|omega|(dsimp only;omega)));exact rfl)|(apply LR.ev; (· apply Ev.slice_lo; (· exact rfl); (· exact rfl); (· first | omega | (dsimp only; omega)); (· first | omega | (dsimp only; omega))); (· exact rfl))|(apply LR.ev; (· apply Ev.load_agg_at (cs := x.row); (· exact rfl); (· exact rfl); (· intro w' hw'; exact rd_row (l := x :: L) (i := 0) MsgA.row_len (ownsAt_rd (hw'.holds (odB (some ⟨by_, oy, none⟩) c (x :: L)) (by (repeat (first | exact mH _ _ | apply mT))))) (by simp) (by simp))); (· exact rfl))|((first|(apply kR;iterate 2 exact rfl)|(apply kQ;exact rfl));all_goals(intro hc;try simp only[hcs]at hc;try(exfalso;first|contradiction|omega))))
  (apply ret2c; (· exact rfl); (· exact inferInstance); (· exact rfl); (· (repeat (first | exact List.Mem.head _ | apply List.Mem.tail))); (· exact rfl); intro w' hS)
  refine ⟨rfl, subA (some ⟨by_, oy, none⟩) c 1 13, c - 1, ?_⟩
  have h2 := hS.odl_drop (l := 1) (E := 28) (sz := 13) (xs := (x :: L).flatMap MsgA.row) (a := some ⟨by_, oy, none⟩) (c := c) (k := (x :: L).length) (by (repeat (first | exact sH _ _ _ | apply sT))) (by simp)
  have h3 := St.bun_head MsgA.dep (front h2 4 rfl rfl)
  have h5 := front (front (front h3 1 rfl rfl) 5 rfl rfl) 5 rfl rfl
  have h4 : St w F [rB b (subA (some ⟨by_, oy, none⟩) c 1 13) (c - 1) L.length, odB (subA (some ⟨by_, oy, none⟩) c 1 13) (c - 1) L, bunB L, x.body] w' := h5.sub (by repeat (first | exact List.Sublist.refl _ | apply List.Sublist.cons_cons | apply List.Sublist.cons))
  exact rO_shut h4
theorem splice_mid2 {A X B vs : List Value} {j : Nat} (hj : j + vs.length ≤ X.length) : splice (A ++ (X ++ B)) (A.length + j) vs = A ++ (splice X j vs ++ B) := by
  unfold splice
  rw [List.take_append, List.take_of_length_le (by omega), show A.length + j - A.length = j by omega, List.take_append_of_le_length (by omega)]
  rw [List.drop_append, List.drop_of_length_le (l := A) (by omega), show A.length + j + vs.length - A.length = j + vs.length by omega, List.drop_append_of_le_length (by omega)]
  simp
theorem splice_flat (p q : List MsgA) (x y : MsgA) (j : Nat) (v : Value) (hj : j < 13) (h : y.row = splice x.row j [v]) : splice ((p ++ x :: q).flatMap MsgA.row) (p.length * 13 + j) [v] = (p ++ y :: q).flatMap MsgA.row := by
  rw [List.flatMap_append, List.flatMap_cons, List.flatMap_append, List.flatMap_cons, h, ← Go.Hb.rows_len MsgA.row_len p]
  exact splice_mid2 (by simp [MsgA.row_len]; omega)
theorem put_id {ba oa n c q' : Nat} {p q : List MsgA} {x y : MsgA} {v : Int} (hy : y.row = splice x.row 3 [.int .i64 v]) (hq : q' = oa + p.length * 13 + 3) :
    Stores Try.prog 3 ⟨ba, q', none⟩ (.int .i64 v) (odl (.slice (some ⟨ba, oa, none⟩) n c) 28 13 n ((p ++ x :: q).flatMap MsgA.row)) (odl (.slice (some ⟨ba, oa, none⟩) n c) 28 13 n ((p ++ y :: q).flatMap MsgA.row)) := by
  subst hq
  have st := Stores.odl (P := Try.prog) (T := 3) (q := 1) (b := ba) (o := oa) (i := p.length * 13 + 3) (n := n) (c := c) (v := .int .i64 v) (vs := [.int .i64 v]) (xs := (p ++ x :: q).flatMap MsgA.row) (E := 28) (sz := 13) inferInstance rfl rfl rfl (by rw [Go.Hb.rows_len MsgA.row_len]; simp; omega)
  rw [splice_flat p q x y 3 _ (by omega) hy, ← Nat.add_assoc] at st
  exact st
set_option maxHeartbeats 2000000 in
theorem c43 (a : Option Addr) (c : Nat) (l : List MsgA) (w : World) (h : (sO a c l).holds w) (hm : l.length ≤ 140737488355328) (hb : ∀ x ∈ l, x.m.body.length ≤ 140737488355328) :
    CallsTo Try.prog 43 [.slice a l.length c] w fun v w' => ∃ l', Step (sO a c l) (sO a c l') w w' := by
  have hS1 := sO_open (St.one h (both_live h) (sO_dep a c l))
  have fin : ∀ (l' : List MsgA) (w' : World), St w (sO a c l).foot [odB a c l', bunB l'] w' → Step (sO a c l) (sO a c l') w w' := fun l' w' hS => (sO_shut hS).step rfl
  generalize hF : (sO a c l).foot = F at *
  refine go_in (n := 40) hS1 Try.func43 rfl rfl ?_
  repeat'(first|(apply kp;iterate 2 exact rfl)|apply jJ|(apply jE;exact rfl)|(apply jp;exact rfl)|(apply jc;kernel_rfl)|((first|apply kf|apply kn|apply ke|apply kx|apply kc|apply kb);iterate 2 exact rfl)|((first|apply kz|apply ky);(·exact rfl);(·repeat(first|exact iO|exact iR rfl|apply iT));iterate 2 exact rfl)|(apply kg;iterate 2 exact rfl)|(apply kG;iterate 3 exact rfl)|(apply kB;(iterate 2 exact rfl);intro _)|(apply kA;exact rfl;intro _)|(apply kK;(iterate 4 exact rfl);intro _)|(apply kU;(iterate 2 exact rfl);(·repeat(first|exact sH _ _ _|apply sT));(first|exact nfL_eq rfl|exact rfl);exact rfl)|((first|apply kh|apply kl);(iterate 2 exact rfl);(first|decide|omega);exact rfl)|((first|(apply kR;iterate 2 exact rfl)|(apply kQ;exact rfl));all_goals(intro hc;try simp only[hcs]at hc;try(exfalso;first|contradiction|omega))))
  apply CW.loop [2, 3, 4, 5, 6, 7, 8, 9, 10, 11, 12, 13, 14, 15, 16, 17, 18, 19, 20, 21, 22, 23, 24, 25, 26, 27, 28, 29, 30, 31, 32, 33, 34, 35, 36, 37, 38, 39] (fun s : Nat × List MsgA => s.1 ≤ l.length ∧ s.2.length = l.length ∧ ∀ x ∈ s.2, x.m.body.length ≤ 140737488355328) (fun s => [(2, Value.int .i64 (s.1 : Int))])
    (fun s => St w F [odl (.slice a l.length c) 28 13 l.length (s.2.flatMap MsgA.row), bunB s.2]) (fun s => l.length - s.1)
  · exact fun w' hw' => ⟨(0, l), ⟨by simp, rfl, hb⟩, ⟨rfl, trivial⟩, hw'⟩
  rintro ⟨i, l'⟩ g ⟨hi, hl', hb'⟩
  simp only at hi hl' hb' ⊢
  by_cases hlt : i < l.length
  · obtain ⟨ba, oa, rfl⟩ := (ownsAt_rd hS1.g0).form (rows_ne MsgA.row_len (by omega) hlt)
    obtain ⟨p, x, q, rfl, hp⟩ : ∃ p x q, l' = p ++ x :: q ∧ p.length = i := ⟨l'.take i, l'[i]'(by omega), l'.drop (i + 1), by rw [← List.drop_eq_getElem_cons (by omega), List.take_append_drop], by simp; omega⟩
    have hxl := hb' x (by simp)
    have hget : (p ++ x :: q)[i]'(by omega) = x := by subst hp; simp
    have hil : i < (p ++ x :: q).length := by omega
    have ldb : ∀ w', Rd w' (some ⟨ba, oa, none⟩) ((p ++ x :: q).flatMap MsgA.row) → ∀ k, k = oa + i * 13 + 12 → w'.cell? ⟨ba, k, none⟩ = some (.slice x.a x.m.body.length x.c) := by
      intro w' hw' k hk
      exact row_cell MsgA.row_len hw' hil 12 (by rw [hget]; rfl) hk
    repeat'(first|(apply kp;iterate 2 exact rfl)|apply jJ|(apply jE;exact rfl)|(apply jp;exact rfl)|(apply jc;kernel_rfl)|((first|apply kf|apply kn|apply ke|apply kx|apply kc|apply kb);iterate 2 exact rfl)|((first|apply kz|apply ky);(·exact rfl);(·repeat(first|exact iO|exact iR rfl|apply iT));iterate 2 exact rfl)|(apply kg;iterate 2 exact rfl)|(apply kG;iterate 3 exact rfl)|(apply kB;(iterate 2 exact rfl);intro _)|(apply kA;exact rfl;intro _)|(apply kK;(iterate 4 exact rfl);intro _)|(apply kU;(iterate 2 exact rfl);(·repeat(first|exact sH _ _ _|apply sT));(first|exact nfL_eq rfl|exact rfl);exact rfl)|((first|apply kh|apply kl);(iterate 2 exact rfl);(first|decide|omega);exact rfl)|((first|(apply kR;iterate 2 exact rfl)|(apply kQ;exact rfl));all_goals(intro hc;try simp only[hcs]at hc;try(exfalso;first|contradiction|omega))))
    apply CW.loop [3, 10, 11, 12, 13, 14, 15, 16, 17, 18, 19, 20, 21, 22, 23, 24, 25, 26, 27, 28, 29, 30, 31, 32, 33, 34, 35] (fun s : Nat × List Int => s.1 ≤ x.m.body.length ∧ s.2.length = x.m.body.length) (fun s => [(3, Value.int .i64 (s.1 : Int))])
      (fun s => St w F [osl (.slice x.a x.m.body.length x.c) 5 1 x.m.body.length (bv s.2), bunB (p ++ q), odl (.slice (some ⟨ba, oa, none⟩) l.length c) 28 13 l.length ((p ++ x :: q).flatMap MsgA.row)]) (fun s => x.m.body.length - s.1)
    · exact fun w' hw' => ⟨(0, x.m.body), ⟨by simp, rfl⟩, ⟨rfl, trivial⟩, St.bun_pick MsgA.dep (front hw' 1 rfl rfl)⟩
    rintro ⟨k, bs⟩ g2 ⟨hk, hbs⟩
    simp only at hk hbs ⊢
    by_cases hlt2 : k < x.m.body.length
    · have hne : (bv bs) ≠ [] := fun e => by
        have e2 : bs.length = 0 := by simpa [bv] using congrArg List.length e
        omega
      refine LR_cls_cw fun w1 hw1 => ?_
      obtain ⟨bx, ox, hxa⟩ := (ownsRow_rd hw1.g0).form hne
      refine CW.sub (D := St w F _) ?_ (fun u e => e ▸ hw1)
      clear hw1 w1
      rw [hxa] at ldb ⊢
      repeat'(first|(apply CW.reg_sinkC 16; (· exact rfl); (· decide +kernel))|(apply kp;iterate 2 exact rfl)|apply jJ|(apply jE;exact rfl)|(apply jp;exact rfl)|(apply jc;kernel_rfl)|((first|apply kf|apply kn|apply ke|apply kx|apply kc|apply kb);iterate 2 exact rfl)|((first|apply kz|apply ky);(·exact rfl);(·repeat(first|exact iO|exact iR rfl|apply iT));iterate 2 exact rfl)|(apply kg;iterate 2 exact rfl)|(apply kG;iterate 3 exact rfl)|(apply kB;(iterate 2 exact rfl);intro _)|(apply kA;exact rfl;intro _)|(apply kK;(iterate 4 exact rfl);intro _)|(apply kU;(iterate 2 exact rfl);(·repeat(first|exact sH _ _ _|apply sT));(first|exact nfL_eq rfl|exact rfl);exact rfl)|((first|apply kh|apply kl);(iterate 2 exact rfl);(first|decide|omega);exact rfl)|(apply idxX;(iterate 2 exact rfl);(iterate 2(first|omega|(dsimp only;omega)));exact rfl)|(apply LR.ev; (· apply Ev.load; (· exact rfl); (· intro w' hw'; refine ldb w' (hw'.rd_of_odl (by (repeat (first | exact mH _ _ | apply mT)))) _ (by simp))); (· exact rfl))|((first|(apply kR;iterate 2 exact rfl)|(apply kQ;exact rfl));all_goals(intro hc;try simp only[hcs]at hc;try(exfalso;first|contradiction|omega))))
      all_goals (
        apply DW.quiet [0, 1, 2, 3, 4, 5, 6, 7, 8, 9, 10, 11, 12, 13, 14, 15]
        · decide +kernel
        · first | exact fun _ h => h | exact fun _ h => St.sub h (by repeat (first | exact List.Sublist.refl _ | apply List.Sublist.cons_cons | apply List.Sublist.cons))
        repeat'(first|(apply yp;iterate 3 exact rfl)|(apply QL.ev;(·exact rfl);(·first|((first|apply Ez|apply Ey);(·exact rfl);(·repeat(first|exact iO|exact iR rfl|apply iT));exact rfl)|((first|apply Ev.fieldAddr|apply Ev.len|apply EqOf.eq|apply EqOf.ne|apply Ev.conv|apply Ev.buildN);exact rfl)|((first|apply Ev.shr|apply Ev.shl);(iterate 2 exact rfl);first|decide|omega));·exact rfl)|(apply QL.ev; (· exact rfl); (· first | (apply Ev.indexAddr; (· exact rfl); (· exact rfl); (· omega); (· omega)) | (apply Ev.load; (· exact rfl); (· intro w' hw'; refine ldb w' (hw'.rd_of_odl (by (repeat (first | exact mH _ _ | apply mT)))) _ (by simp))) | (apply Ev.load_osl; (· exact rfl); (· (repeat (first | exact mH _ _ | apply mT))); (· exact bv_at (l := bs) (i := k) (by simp) (by omega))) | (apply Ev.addW; (· exact rfl); (· exact rfl))); (· exact rfl))|(apply yq;iterate 5 exact rfl)|(apply QL.evg;(iterate 3 exact rfl);(·first|((first|apply Ez|apply Ey);(·exact rfl);(·repeat(first|exact iO|exact iR rfl|apply iT));exact rfl)|((first|apply Ev.fieldAddr|apply Ev.len|apply EqOf.eq|apply EqOf.ne|apply Ev.conv|apply Ev.buildN);exact rfl)|((first|apply Ev.shr|apply Ev.shl);(iterate 2 exact rfl);first|decide|omega));·exact rfl)|(apply yn;iterate 4 exact rfl)|((apply QL.split;iterate 3 exact rfl);all_goals(intro hc;try simp only[hcs]at hc;try(exfalso;first|contradiction|omega)))|apply QL.nil)
        all_goals (show DW _ _ _ _ _ _ _ _))
      all_goals (apply DW.done; (· decide +kernel))
      all_goals apply At.sink
      refine LR.store_obj (v := .int .u8 (IntKind.wrap .u8 (bs[k] + 1))) (z' := osl (.slice (some ⟨bx, ox, none⟩) x.m.body.length x.c) 5 1 x.m.body.length (bv (bs.set k (IntKind.wrap .u8 (bs[k] + 1))))) rfl rfl (sH _ _ _) rfl ?_ (osl.dep _ _ _ _ _) ?_
      · have st := Stores.osl (P := Try.prog) (T := 5) (q := 1) (b := bx) (o := ox) (i := (k : Int).toNat * 1) (n := x.m.body.length) (c := x.c) (v := .int .u8 (IntKind.wrap .u8 (bs[k] + 1))) (vs := [.int .u8 (IntKind.wrap .u8 (bs[k] + 1))]) (xs := bv bs) (E := 5) (sz := 1) inferInstance rfl rfl rfl (by simp; omega)
        rw [show (k : Int).toNat * 1 = k by omega] at st ⊢
        rwa [splice_bv _ _ _ (by omega)] at st
      repeat'(first|(apply kp;iterate 2 exact rfl)|apply jJ|(apply jE;exact rfl)|(apply jp;exact rfl)|(apply jc;kernel_rfl)|((first|apply kf|apply kn|apply ke|apply kx|apply kc|apply kb);iterate 2 exact rfl)|((first|apply kz|apply ky);(·exact rfl);(·repeat(first|exact iO|exact iR rfl|apply iT));iterate 2 exact rfl)|(apply kg;iterate 2 exact rfl)|(apply kG;iterate 3 exact rfl)|(apply kB;(iterate 2 exact rfl);intro _)|(apply kA;exact rfl;intro _)|(apply kK;(iterate 4 exact rfl);intro _)|(apply kU;(iterate 2 exact rfl);(·repeat(first|exact sH _ _ _|apply sT));(first|exact nfL_eq rfl|exact rfl);exact rfl)|((first|apply kh|apply kl);(iterate 2 exact rfl);(first|decide|omega);exact rfl)|(apply addX;(iterate 2 exact rfl);(iterate 2(first|omega|(dsimp only;omega)));exact rfl)|((first|(apply kR;iterate 2 exact rfl)|(apply kQ;exact rfl));all_goals(intro hc;try simp only[hcs]at hc;try(exfalso;first|contradiction|omega))))
      apply At.again (k + 1, bs.set k (IntKind.wrap .u8 (bs[k] + 1))) ⟨by show k + 1 ≤ _; omega, by simp [hbs]⟩
      · (repeat (first | exact Out.refl _ _ | exact Out.mix | (apply Out.upd; (· exact rfl)) | (apply Out.updL; (· exact rfl)) | (apply Out.mixs; (· exact rfl))))
      · exact ⟨rfl, trivial⟩
      · exact fun w' hw' => hw'
      · show x.m.body.length - (k + 1) < x.m.body.length - k
        omega
    · obtain ⟨y, hym, hya, hyc⟩ : ∃ y : MsgA, y.m = { x.m with id := -1, body := bs } ∧ y.a = x.a ∧ y.c = x.c := ⟨⟨{ x.m with id := -1, body := bs }, x.a, x.c⟩, rfl, rfl, rfl⟩
      have hyr : y.row = splice x.row 3 [.int .i64 (-1)] := by
        simp only [MsgA.row, Msg.cells, splice, hym, hya, hyc, hbs]
        rfl
      have hyb : osl (.slice x.a x.m.body.length x.c) 5 1 x.m.body.length (bv bs) = y.body := by
        simp only [MsgA.body, hym, hya, hyc, hbs]
      rw [hyb]
      repeat'(first|(apply kp;iterate 2 exact rfl)|apply jJ|(apply jE;exact rfl)|(apply jp;exact rfl)|(apply jc;kernel_rfl)|((first|apply kf|apply kn|apply ke|apply kx|apply kc|apply kb);iterate 2 exact rfl)|((first|apply kz|apply ky);(·exact rfl);(·repeat(first|exact iO|exact iR rfl|apply iT));iterate 2 exact rfl)|(apply kg;iterate 2 exact rfl)|(apply kG;iterate 3 exact rfl)|(apply kB;(iterate 2 exact rfl);intro _)|(apply kA;exact rfl;intro _)|(apply kK;(iterate 4 exact rfl);intro _)|(apply kU;(iterate 2 exact rfl);(·repeat(first|exact sH _ _ _|apply sT));(first|exact nfL_eq rfl|exact rfl);exact rfl)|((first|apply kh|apply kl);(iterate 2 exact rfl);(first|decide|omega);exact rfl)|(apply idxX;(iterate 2 exact rfl);(iterate 2(first|omega|(dsimp only;omega)));exact rfl)|(apply addX;(iterate 2 exact rfl);(iterate 2(first|omega|(dsimp only;omega)));exact rfl)|(apply LR.ev; (· apply Ev.load; (· exact rfl); (· intro w' hw'; refine ldb w' (hw'.rd_of_odl (by (repeat (first | exact mH _ _ | apply mT)))) _ (by simp))); (· exact rfl))|((first|(apply kR;iterate 2 exact rfl)|(apply kQ;exact rfl));all_goals(intro hc;try simp only[hcs]at hc;try(exfalso;first|contradiction|omega))))
      refine LR.store_obj (v := .int .i64 (-1)) (z' := odl (.slice (some ⟨ba, oa, none⟩) l.length c) 28 13 l.length ((p ++ y :: q).flatMap MsgA.row)) rfl rfl (by (repeat (first | exact sH _ _ _ | apply sT))) rfl (put_id hyr (by simp [hp])) (odl.dep _ _ _ _ _) ?_
      repeat'(first|(apply kp;iterate 2 exact rfl)|apply jJ|(apply jE;exact rfl)|(apply jp;exact rfl)|(apply jc;kernel_rfl)|((first|apply kf|apply kn|apply ke|apply kx|apply kc|apply kb);iterate 2 exact rfl)|((first|apply kz|apply ky);(·exact rfl);(·repeat(first|exact iO|exact iR rfl|apply iT));iterate 2 exact rfl)|(apply kg;iterate 2 exact rfl)|(apply kG;iterate 3 exact rfl)|(apply kB;(iterate 2 exact rfl);intro _)|(apply kA;exact rfl;intro _)|(apply kK;(iterate 4 exact rfl);intro _)|(apply kU;(iterate 2 exact rfl);(·repeat(first|exact sH _ _ _|apply sT));(first|exact nfL_eq rfl|exact rfl);exact rfl)|((first|apply kh|apply kl);(iterate 2 exact rfl);(first|decide|omega);exact rfl)|(apply addX;(iterate 2 exact rfl);(iterate 2(first|omega|(dsimp only;omega)));exact rfl)|((first|(apply kR;iterate 2 exact rfl)|(apply kQ;exact rfl));all_goals(intro hc;try simp only[hcs]at hc;try(exfalso;first|contradiction|omega))))
      apply At.again (i + 1, p ++ y :: q)
      · refine ⟨by show i + 1 ≤ _; omega, by simpa using hl', ?_⟩
        intro z hz
        rcases List.mem_append.1 hz with hz | hz
        · exact hb' z (by simp [hz])
        · rcases List.mem_cons.1 hz with rfl | hz
          · rw [hym]
            show bs.length ≤ _
            omega
          · exact hb' z (by simp [hz])
      · (repeat (first | exact Out.refl _ _ | exact Out.mix | (apply Out.upd; (· exact rfl)) | (apply Out.updL; (· exact rfl)) | (apply Out.mixs; (· exact rfl))))
      · exact ⟨rfl, trivial⟩
      · exact fun w' hw' => front (St.bun_put MsgA.dep MsgA.ex hw') 1 rfl rfl
      · show l.length - (i + 1) < l.length - i
        omega
  · repeat'(first|(apply kp;iterate 2 exact rfl)|apply jJ|(apply jE;exact rfl)|(apply jp;exact rfl)|(apply jc;kernel_rfl)|((first|apply kf|apply kn|apply ke|apply kx|apply kc|apply kb);iterate 2 exact rfl)|((first|apply kz|apply ky);(·exact rfl);(·repeat(first|exact iO|exact iR rfl|apply iT));iterate 2 exact rfl)|(apply kg;iterate 2 exact rfl)|(apply kG;iterate 3 exact rfl)|(apply kB;(iterate 2 exact rfl);intro _)|(apply kA;exact rfl;intro _)|(apply kK;(iterate 4 exact rfl);intro _)|(apply kU;(iterate 2 exact rfl);(·repeat(first|exact sH _ _ _|apply sT));(first|exact nfL_eq rfl|exact rfl);exact rfl)|((first|apply kh|apply kl);(iterate 2 exact rfl);(first|decide|omega);exact rfl)|((first|(apply kR;iterate 2 exact rfl)|(apply kQ;exact rfl));all_goals(intro hc;try simp only[hcs]at hc;try(exfalso;first|contradiction|omega))))
    apply end0 rfl
    intro w' hS
    refine ⟨l', fin l' w' ?_⟩
    show St w F [odl (.slice a l'.length c) 28 13 l'.length (l'.flatMap MsgA.row), bunB l'] w'
    rw [hl']
    exact hS
end Go.Proofs.Ytomlgnncncjmaaa

namespace Go.Proofs.Ytomlgnncncjmaaa
open Go.Hb Go.ChangeShapes Go.WideShapes
attribute [local irreducible] LR CW At Ev thn blk finK noG again CallsTo DW QL dnext TW DP
set_option linter.unusedSimpArgs false
set_option linter.unusedVariables false
set_option maxRecDepth 100000

theorem qputE_map {n : Nat} {l l' : List MsgA} (h : l.map MsgA.m = l'.map MsgA.m) : qputE n l = qputE n l' := by
  have e : ∀ l : List MsgA, qputE n l = if ((l.map MsgA.m).any fun m => decide (check m ≠ 0)) = true then 2 else if 32 - (n : Int) < ((l.map MsgA.m).length : Int) then 7 else 0 := by
    intro l
    rw [List.any_map, List.length_map]
    rfl
  rw [e, e, h]
theorem rput_deed {w w1 : World} {R : List Asrt} {b : Nat} {a : Option Addr} {c n : Nat} {L l ms : List MsgA} {xa : Option Addr} {xc : Nat} {tk : Int} (h1 : St w NoF R w1) (hqm : rO b a c L ∈ R) (hL : L.length ≤ 32) (hx : DR w ⟨xa, xc, ms, tk⟩) (hn : L.length = n) (hl : l.map MsgA.m = ms.map MsgA.m) :
    CallsTo Try.prog 42 [.pointer (some ⟨b, 0, none⟩), .slice xa ms.length xc] w1 fun v w' => ∃ a' c' L', v = .int .i64 (qputE n l) ∧ L'.map MsgA.m = L.map MsgA.m ++ (if qputE n l = 0 then l.map MsgA.m else []) ∧ Step (rO b a c L) (rO b a' c' L') w1 w' := by
  subst hn
  rw [qputE_map hl, hl]
  exact c42 b a c L xa xc ms w1 (h1.holds _ hqm) hL (h1.oldRd hx.hr) (h1.oldApart hqm rfl hx.hr) (fun y hy => (hx.hR y hy).old h1) (fun y hy => h1.oldApart hqm rfl (hx.hR y hy).hr) (by have := hx.hm; show ms.length ≤ _; have : ms.length * 120 ≤ 140737488351232 := this; omega)
theorem rO_rd {b : Nat} {a : Option Addr} {c n : Nat} {L : List MsgA} {w : World} (h : (rO b a c L).holds w) (hn : L.length = n) : Rd w (some ⟨b, 0, none⟩) [.slice a n c] := fun j v hj =>
  ⟨_, rfl, by rw [addr_add, cell_own (show w.heap[b]? = some (.cells [Value.slice a L.length c].toArray 116 (0, 0)) from h.1), hn]; simpa using hj⟩
theorem one_sO {w0 w : World} {R : List Asrt} {b : Nat} {x : MsgA} (h : St w0 NoF (.own b (.cells x.row.toArray 28 (0, 0)) :: x.body :: R) w) : St w0 NoF (sO (some ⟨b, 0, none⟩) 1 [x] :: R) w := by
  have h1 := h.own_osl (k := 1) (sz := 13) (E := 28) (cs := x.row) (sH _ _ _) rfl (by unfold maxLen; omega)
  have h2 := St.bun_snoc (f := MsgA.body) (x := x) (l := []) MsgA.dep MsgA.ex ((front (h1.osl_odl (sH _ _ _)) 1 rfl rfl).bun_nil MsgA.dep).swap
  exact sO_shut h2.swap
structure D3 where
  fa : Nat
  sa : List MsgA
  La : List MsgA
  ab : Option Addr
  cb : Nat
  Lb : List MsgA
  fo : Nat
  so : List MsgA
  Lo : List MsgA
structure D3.Ok (s : D3) : Prop where
  ra : QRep s.fa s.sa s.La
  ro : QRep s.fo s.so s.Lo
  hm : s.La.map MsgA.m = s.Lb.map MsgA.m
  hb : ∀ x ∈ s.Lb, x.m.body.length ≤ 140737488355328
def D3.own (ba bb bo : Nat) (s : D3) : List Asrt := [qO bo s.fo s.so s.Lo, rO bb s.ab s.cb s.Lb, qO ba s.fa s.sa s.La]
set_option maxHeartbeats 8000000 in
theorem c10 (al : Option Addr) (cl : Nat) (l : List DeedA) (w : World) (hr : Rd w al (l.flatMap DeedA.row)) (hD : ∀ x ∈ l, DR w x) (hm : l.length ≤ 140737488351232) :
    CallsTo Try.prog 10 [.slice al l.length cl] w fun v w' => v = .bool true ∧ Grew w w' := by
  refine go_in (n := 117) (St.rd1 hr) Try.func10 rfl rfl ?_
  repeat'(first|(apply kp;iterate 2 exact rfl)|apply jJ|(apply jE;exact rfl)|(apply jp;exact rfl)|(apply jc;kernel_rfl)|((first|apply kf|apply kn|apply ke|apply kx|apply kc|apply kb);iterate 2 exact rfl)|((first|apply kz|apply ky);(·exact rfl);(·repeat(first|exact iO|exact iR rfl|apply iT));iterate 2 exact rfl)|(apply kg;iterate 2 exact rfl)|(apply kG;iterate 3 exact rfl)|(apply kB;(iterate 2 exact rfl);intro _)|(apply kA;exact rfl;intro _)|(apply kK;(iterate 4 exact rfl);intro _)|(apply kU;(iterate 2 exact rfl);(·repeat(first|exact sH _ _ _|apply sT));(first|exact nfL_eq rfl|exact rfl);exact rfl)|((first|apply kh|apply kl);(iterate 2 exact rfl);(first|decide|omega);exact rfl)|((first|(apply kR;iterate 2 exact rfl)|(apply kQ;exact rfl));all_goals(intro hc;try simp only[hcs]at hc;try(exfalso;first|contradiction|omega))))
  apply LR.call
  · exact rfl
  intro w1 h1
  refine (c38 w1).mono ?_
  rintro v w2 ⟨ba, rfl, hn⟩
  have h2 := ((h1.got hn (Asrt.dep_own _ _)).bun_nil MsgA.dep).swap.join rfl rfl
  refine LR.back h2 ?_
  clear h2 h1 hn
  repeat'(first|(apply kp;iterate 2 exact rfl)|apply jJ|(apply jE;exact rfl)|(apply jp;exact rfl)|(apply jc;kernel_rfl)|((first|apply kf|apply kn|apply ke|apply kx|apply kc|apply kb);iterate 2 exact rfl)|((first|apply kz|apply ky);(·exact rfl);(·repeat(first|exact iO|exact iR rfl|apply iT));iterate 2 exact rfl)|(apply kg;iterate 2 exact rfl)|(apply kG;iterate 3 exact rfl)|(apply kB;(iterate 2 exact rfl);intro _)|(apply kA;exact rfl;intro _)|(apply kK;(iterate 4 exact rfl);intro _)|(apply kU;(iterate 2 exact rfl);(·repeat(first|exact sH _ _ _|apply sT));(first|exact nfL_eq rfl|exact rfl);exact rfl)|((first|apply kh|apply kl);(iterate 2 exact rfl);(first|decide|omega);exact rfl)|((first|(apply kR;iterate 2 exact rfl)|(apply kQ;exact rfl));all_goals(intro hc;try simp only[hcs]at hc;try(exfalso;first|contradiction|omega))))
  apply LR.call
  · exact rfl
  intro w1 h1
  refine (c39 w1).mono ?_
  rintro v w2 ⟨bb, rfl, st⟩
  refine LR.back (h1.pushL st (fun x hx => by simp at hx; subst hx; rfl)) ?_
  clear h1 st
  repeat'(first|(apply kp;iterate 2 exact rfl)|apply jJ|(apply jE;exact rfl)|(apply jp;exact rfl)|(apply jc;kernel_rfl)|((first|apply kf|apply kn|apply ke|apply kx|apply kc|apply kb);iterate 2 exact rfl)|((first|apply kz|apply ky);(·exact rfl);(·repeat(first|exact iO|exact iR rfl|apply iT));iterate 2 exact rfl)|(apply kg;iterate 2 exact rfl)|(apply kG;iterate 3 exact rfl)|(apply kB;(iterate 2 exact rfl);intro _)|(apply kA;exact rfl;intro _)|(apply kK;(iterate 4 exact rfl);intro _)|(apply kU;(iterate 2 exact rfl);(·repeat(first|exact sH _ _ _|apply sT));(first|exact nfL_eq rfl|exact rfl);exact rfl)|((first|apply kh|apply kl);(iterate 2 exact rfl);(first|decide|omega);exact rfl)|((first|(apply kR;iterate 2 exact rfl)|(apply kQ;exact rfl));all_goals(intro hc;try simp only[hcs]at hc;try(exfalso;first|contradiction|omega))))
  apply LR.call
  · exact rfl
  intro w1 h1
  refine (c38 w1).mono ?_
  rintro v w2 ⟨bo, rfl, hn⟩
  have h2 := ((h1.got hn (Asrt.dep_own _ _)).bun_nil MsgA.dep).swap.join rfl rfl
  refine LR.back h2 ?_
  clear h2 h1 hn
  repeat'(first|(apply kp;iterate 2 exact rfl)|apply jJ|(apply jE;exact rfl)|(apply jp;exact rfl)|(apply jc;kernel_rfl)|((first|apply kf|apply kn|apply ke|apply kx|apply kc|apply kb);iterate 2 exact rfl)|((first|apply kz|apply ky);(·exact rfl);(·repeat(first|exact iO|exact iR rfl|apply iT));iterate 2 exact rfl)|(apply kg;iterate 2 exact rfl)|(apply kG;iterate 3 exact rfl)|(apply kB;(iterate 2 exact rfl);intro _)|(apply kA;exact rfl;intro _)|(apply kK;(iterate 4 exact rfl);intro _)|(apply kU;(iterate 2 exact rfl);(·repeat(first|exact sH _ _ _|apply sT));(first|exact nfL_eq rfl|exact rfl);exact rfl)|((first|apply kh|apply kl);(iterate 2 exact rfl);(first|decide|omega);exact rfl)|(apply kq; (· exact rfl); (· intro w1 h1; exact CallsTo.q (c50 w1) h1))|((first|(apply kR;iterate 2 exact rfl)|(apply kQ;exact rfl));all_goals(intro hc;try simp only[hcs]at hc;try(exfalso;first|contradiction|omega))))
  apply CW.loop [2, 6, 7, 8, 9, 10, 11, 12, 13, 17, 18, 19, 20, 21, 22, 23, 24, 25, 26, 27, 28, 29, 30, 31, 32, 33, 34, 35, 36, 37, 38, 39, 40, 41, 42, 43, 44, 45, 46, 47, 48, 49, 50, 51, 52, 53, 54, 55, 56, 57, 58, 59, 60, 61, 62, 63, 64, 65, 66, 67, 68, 69, 70, 71, 72, 73, 74, 75, 76, 77, 78, 79, 80, 81, 82, 83, 84, 85, 86, 87, 88, 89, 90, 91, 92, 93, 94, 95, 96, 97, 98, 99, 100, 101, 102, 103, 104, 105, 106, 107, 108, 109, 110, 111, 112, 113, 114, 115] (fun s : Nat × D3 => s.1 ≤ l.length ∧ s.2.Ok) (fun s => [(6, Value.int .i64 (s.1 : Int))])
    (fun s => St w NoF [qO bo s.2.fo s.2.so s.2.Lo, rO bb s.2.ab s.2.cb s.2.Lb, qO ba s.2.fa s.2.sa s.2.La, rdA al (l.flatMap DeedA.row)]) (fun s => l.length - s.1)
  · exact fun w' hw' => ⟨(0, ⟨0, List.replicate 32 zeroA, [], none, 0, [], 0, List.replicate 32 zeroA, []⟩), ⟨by simp, ⟨QRep.start, QRep.start, rfl, by simp⟩⟩, ⟨rfl, trivial⟩, hw'⟩
  rintro ⟨i, fa, sa, La, ab, cb, Lb, fo, so, Lo⟩ g ⟨hi, ra, ro, hm1, hb⟩
  simp only at hi ra ro hm1 hb ⊢
  have hq : Lb.length = La.length := by have := congrArg List.length hm1; simpa using this.symm
  have hL := ra.hL
  by_cases hlt : i < l.length
  · obtain ⟨bl, ol, rfl⟩ := hr.form (rows_ne DeedA.row_len (by omega) hlt)
    have dr := hD _ (List.getElem_mem hlt)
    obtain ⟨⟨xa, xc, ms, tk⟩, hX⟩ : ∃ X, l[i] = X := ⟨_, rfl⟩
    rw [hX] at dr
    have drm : ms.length * 120 ≤ 140737488351232 := dr.hm
    have ldp : ∀ w', Rd w' (some ⟨bl, ol, none⟩) (l.flatMap DeedA.row) → ∀ q, q = ol + i * 2 → w'.cell? ⟨bl, q, none⟩ = some (.slice xa ms.length xc) := by
      intro w' hw' q hq
      exact row_cell DeedA.row_len hw' hlt 0 (by rw [hX]; rfl) (by omega)
    have ldt : ∀ w', Rd w' (some ⟨bl, ol, none⟩) (l.flatMap DeedA.row) → ∀ q, q = ol + i * 2 + 1 → w'.cell? ⟨bl, q, none⟩ = some (.int .i64 tk) := by
      intro w' hw' q hq
      exact row_cell DeedA.row_len hw' hlt 1 (by rw [hX]; rfl) (by omega)
    repeat'(first|(apply kp;iterate 2 exact rfl)|apply jJ|(apply jE;exact rfl)|(apply jp;exact rfl)|(apply jc;kernel_rfl)|((first|apply kf|apply kn|apply ke|apply kx|apply kc|apply kb);iterate 2 exact rfl)|((first|apply kz|apply ky);(·exact rfl);(·repeat(first|exact iO|exact iR rfl|apply iT));iterate 2 exact rfl)|(apply kg;iterate 2 exact rfl)|(apply kG;iterate 3 exact rfl)|(apply kB;(iterate 2 exact rfl);intro _)|(apply kA;exact rfl;intro _)|(apply kK;(iterate 4 exact rfl);intro _)|(apply kU;(iterate 2 exact rfl);(·repeat(first|exact sH _ _ _|apply sT));(first|exact nfL_eq rfl|exact rfl);exact rfl)|((first|apply kh|apply kl);(iterate 2 exact rfl);(first|decide|omega);exact rfl)|(apply idxX;(iterate 2 exact rfl);(iterate 2(first|omega|(dsimp only;omega)));exact rfl)|(apply LR.ev; (· apply Ev.load; (· exact rfl); (· intro w' hw'; refine ldp w' (hw'.rd_of ?_) _ ?_; (· (repeat (first | exact mH _ _ | apply mT))); (· simp; done))); (· exact rfl))|((first|(apply kR;iterate 2 exact rfl)|(apply kQ;exact rfl));all_goals(intro hc;try simp only[hcs]at hc;try(exfalso;first|contradiction|omega))))
    apply LR.call
    · exact rfl
    intro w1 h1
    refine (c40 xa xc ms w1 (h1.oldRd dr.hr) (fun y hy => (dr.hR y hy).old h1) drm).mono ?_
    rintro v w2 ⟨a1, c1, l1, rfl, e1, st⟩
    refine LR.back (h1.pushL st excl2) ?_
    have k1 : ∀ x ∈ l1, Byt x.m.body ∧ x.m.body.length ≤ 140737488355328 := by
      intro x hx
      have : x.m ∈ ms.map MsgA.m := by rw [← e1]; exact List.mem_map.2 ⟨x, hx, rfl⟩
      obtain ⟨y, hy, he⟩ := List.mem_map.1 this
      rw [← he]
      exact ⟨(dr.hR y hy).hb, (dr.hR y hy).hm⟩
    clear h1 st
    have n1 : l1.length = ms.length := by have := congrArg List.length e1; simpa using this
    repeat'(first|(apply CW.reg_held (St w NoF [rdA (some ⟨bl, ol, none⟩) (l.flatMap DeedA.row)]))|(apply kp;iterate 2 exact rfl)|apply jJ|(apply jE;exact rfl)|(apply jp;exact rfl)|(apply jc;kernel_rfl)|((first|apply kf|apply kn|apply ke|apply kx|apply kc|apply kb);iterate 2 exact rfl)|((first|apply kz|apply ky);(·exact rfl);(·repeat(first|exact iO|exact iR rfl|apply iT));iterate 2 exact rfl)|(apply kg;iterate 2 exact rfl)|(apply kG;iterate 3 exact rfl)|(apply kB;(iterate 2 exact rfl);intro _)|(apply kA;exact rfl;intro _)|(apply kK;(iterate 4 exact rfl);intro _)|(apply kU;(iterate 2 exact rfl);(·repeat(first|exact sH _ _ _|apply sT));(first|exact nfL_eq rfl|exact rfl);exact rfl)|((first|apply kh|apply kl);(iterate 2 exact rfl);(first|decide|omega);exact rfl)|((first|(apply kR;iterate 2 exact rfl)|(apply kQ;exact rfl));all_goals(intro hc;try simp only[hcs]at hc;try(exfalso;first|contradiction|omega))))
    all_goals (
      apply DW.quiet [0, 1, 3, 4, 5, 6, 7, 8]
      · decide +kernel
      · first | exact fun _ h => h | exact fun _ h => St.sub h (by repeat (first | exact List.Sublist.refl _ | apply List.Sublist.cons_cons | apply List.Sublist.cons))
      repeat'(first|(apply yp;iterate 3 exact rfl)|(apply QL.ev;(·exact rfl);(·first|((first|apply Ez|apply Ey);(·exact rfl);(·repeat(first|exact iO|exact iR rfl|apply iT));exact rfl)|((first|apply Ev.fieldAddr|apply Ev.len|apply EqOf.eq|apply EqOf.ne|apply Ev.conv|apply Ev.buildN);exact rfl)|((first|apply Ev.shr|apply Ev.shl);(iterate 2 exact rfl);first|decide|omega));·exact rfl)|(apply QL.ev; (· exact rfl); (· first | (apply Ev.indexAddr; (· exact rfl); (· exact rfl); (· omega); (· omega)) | (apply Ev.load; (· exact rfl); (· intro w' hw'; refine ldp w' (hw'.rd_of ?_) _ ?_; (· (repeat (first | exact mH _ _ | apply mT))); (· simp; done)))); (· exact rfl))|(apply yq;iterate 5 exact rfl)|(apply QL.evg;(iterate 3 exact rfl);(·first|((first|apply Ez|apply Ey);(·exact rfl);(·repeat(first|exact iO|exact iR rfl|apply iT));exact rfl)|((first|apply Ev.fieldAddr|apply Ev.len|apply EqOf.eq|apply EqOf.ne|apply Ev.conv|apply Ev.buildN);exact rfl)|((first|apply Ev.shr|apply Ev.shl);(iterate 2 exact rfl);first|decide|omega));·exact rfl)|(apply yn;iterate 4 exact rfl)|((apply QL.split;iterate 3 exact rfl);all_goals(intro hc;try simp only[hcs]at hc;try(exfalso;first|contradiction|omega)))|apply QL.nil)
      all_goals (show DW _ _ _ _ _ _ _ _))
    all_goals (
      apply DW.loud 2
      · exact rfl
      · decide +kernel
      repeat'(first|(apply kg;iterate 2 exact rfl)|(apply kG;iterate 3 exact rfl)|apply kM|(apply kp;iterate 2 exact rfl)|((first|apply kz|apply ky);(·exact rfl);(·repeat(first|exact iO|exact iR rfl|apply iT));iterate 2 exact rfl)|(apply kK;(iterate 4 exact rfl);intro _)|(apply kU;(iterate 2 exact rfl);(·repeat(first|exact sH _ _ _|apply sT));(first|exact nfL_eq rfl|exact rfl);exact rfl)|(apply kB;(iterate 2 exact rfl);intro _)|(apply kA;exact rfl;intro _)|(apply LR.call; (· exact rfl); (intro w1 h1; first | (have hh := put_lent (b := ba) (first := fa) (slots := sa) (L := La) (al := a1) (cl := c1) (l := l1) h1 (by (repeat (first | exact mH _ _ | apply mT))) ra k1 (by omega); refine CallsTo.mono hh ?_; clear hh; rintro v w2 ⟨sa1, La1, rfl, ra1, ma1, st⟩; have h2 := h1.one' st rfl (qO_dep _ _ _ _) (by (repeat (first | exact sH _ _ _ | apply sT))); refine LR.back h2 ?_; clear h2 h1 st; apply kM) | (have hh := rput_deed (b := bb) (a := ab) (c := cb) (L := Lb) (n := La.length) (l := l1) h1 (by (repeat (first | exact mH _ _ | apply mT))) (by omega) dr hq e1; refine CallsTo.mono hh ?_; clear hh; rintro v w2 ⟨ab1, cb1, Lb1, rfl, mb1, st⟩; have h2 := h1.one' st rfl (rO_dep _ _ _ _) (by (repeat (first | exact sH _ _ _ | apply sT))); refine LR.back h2 ?_; clear h2 h1 st; apply kM))))
      all_goals (refine At.stage_same (fun _ h => St.sub h (by repeat (first | exact List.Sublist.refl _ | apply List.Sublist.cons_cons | apply List.Sublist.cons))) ?_))
    all_goals (
      apply DW.loud 9
      · exact rfl
      · decide +kernel
      repeat'(first|(apply kg;iterate 2 exact rfl)|(apply kG;iterate 3 exact rfl)|apply kM|(apply kp;iterate 2 exact rfl)|((first|apply kz|apply ky);(·exact rfl);(·repeat(first|exact iO|exact iR rfl|apply iT));iterate 2 exact rfl)|(apply kK;(iterate 4 exact rfl);intro _)|(apply kU;(iterate 2 exact rfl);(·repeat(first|exact sH _ _ _|apply sT));(first|exact nfL_eq rfl|exact rfl);exact rfl)|(apply kB;(iterate 2 exact rfl);intro _)|(apply kA;exact rfl;intro _)|(apply LR.call; (· exact rfl); (intro w1 h1; first | (have hh := put_lent (b := ba) (first := fa) (slots := sa) (L := La) (al := a1) (cl := c1) (l := l1) h1 (by (repeat (first | exact mH _ _ | apply mT))) ra k1 (by omega); refine CallsTo.mono hh ?_; clear hh; rintro v w2 ⟨sa1, La1, rfl, ra1, ma1, st⟩; have h2 := h1.one' st rfl (qO_dep _ _ _ _) (by (repeat (first | exact sH _ _ _ | apply sT))); refine LR.back h2 ?_; clear h2 h1 st; apply kM) | (have hh := rput_deed (b := bb) (a := ab) (c := cb) (L := Lb) (n := La.length) (l := l1) h1 (by (repeat (first | exact mH _ _ | apply mT))) (by omega) dr hq e1; refine CallsTo.mono hh ?_; clear hh; rintro v w2 ⟨ab1, cb1, Lb1, rfl, mb1, st⟩; have h2 := h1.one' st rfl (rO_dep _ _ _ _) (by (repeat (first | exact sH _ _ _ | apply sT))); refine LR.back h2 ?_; clear h2 h1 st; apply kM))))
      all_goals (refine At.stage_same (fun _ h => St.sub h (by repeat (first | exact List.Sublist.refl _ | apply List.Sublist.cons_cons | apply List.Sublist.cons))) ?_))
    all_goals (
      apply DW.quiet [10]
      · decide +kernel
      · first | exact fun _ h => h | exact fun _ h => St.sub h (by repeat (first | exact List.Sublist.refl _ | apply List.Sublist.cons_cons | apply List.Sublist.cons))
      repeat'(first|(apply yp;iterate 3 exact rfl)|(apply QL.ev;(·exact rfl);(·first|((first|apply Ez|apply Ey);(·exact rfl);(·repeat(first|exact iO|exact iR rfl|apply iT));exact rfl)|((first|apply Ev.fieldAddr|apply Ev.len|apply EqOf.eq|apply EqOf.ne|apply Ev.conv|apply Ev.buildN);exact rfl)|((first|apply Ev.shr|apply Ev.shl);(iterate 2 exact rfl);first|decide|omega));·exact rfl)|(apply QL.ev; (· exact rfl); (· first | (apply Ev.indexAddr; (· exact rfl); (· exact rfl); (· omega); (· omega)) | (apply Ev.load; (· exact rfl); (· intro w' hw'; refine ldp w' (hw'.rd_of ?_) _ ?_; (· (repeat (first | exact mH _ _ | apply mT))); (· simp; done)))); (· exact rfl))|(apply yq;iterate 5 exact rfl)|(apply QL.evg;(iterate 3 exact rfl);(·first|((first|apply Ez|apply Ey);(·exact rfl);(·repeat(first|exact iO|exact iR rfl|apply iT));exact rfl)|((first|apply Ev.fieldAddr|apply Ev.len|apply EqOf.eq|apply EqOf.ne|apply Ev.conv|apply Ev.buildN);exact rfl)|((first|apply Ev.shr|apply Ev.shl);(iterate 2 exact rfl);first|decide|omega));·exact rfl)|(apply yn;iterate 4 exact rfl)|((apply QL.split;iterate 3 exact rfl);all_goals(intro hc;try simp only[hcs]at hc;try(exfalso;first|contradiction|omega)))|apply QL.nil)
      all_goals (show DW _ _ _ _ _ _ _ _))
    all_goals (first | (apply DW.done_thn; (· decide +kernel)) | (apply DW.done; (· decide +kernel)))
    have hm2 : La1.map MsgA.m = Lb1.map MsgA.m := by rw [ma1, mb1, hm1]
    have hb2 : ∀ x ∈ Lb1, x.m.body.length ≤ 140737488355328 := by
      intro x hx
      have hx2 : x.m ∈ Lb1.map MsgA.m := List.mem_map.2 ⟨x, hx, rfl⟩
      rw [mb1] at hx2
      rcases List.mem_append.1 hx2 with h | h
      · obtain ⟨y, hy, he⟩ := List.mem_map.1 h
        rw [← he]; exact hb y hy
      · split at h
        · obtain ⟨y, hy, he⟩ := List.mem_map.1 h
          rw [← he]; exact (k1 y hy).2
        · cases h
    clear ma1 mb1
    repeat'(first|(apply kp;iterate 2 exact rfl)|apply jJ|(apply jE;exact rfl)|(apply jp;exact rfl)|(apply jc;kernel_rfl)|((first|apply kf|apply kn|apply ke|apply kx|apply kc|apply kb);iterate 2 exact rfl)|((first|apply kz|apply ky);(·exact rfl);(·repeat(first|exact iO|exact iR rfl|apply iT));iterate 2 exact rfl)|(apply kg;iterate 2 exact rfl)|(apply kG;iterate 3 exact rfl)|(apply kB;(iterate 2 exact rfl);intro _)|(apply kA;exact rfl;intro _)|(apply kK;(iterate 4 exact rfl);intro _)|(apply kU;(iterate 2 exact rfl);(·repeat(first|exact sH _ _ _|apply sT));(first|exact nfL_eq rfl|exact rfl);exact rfl)|((first|apply kh|apply kl);(iterate 2 exact rfl);(first|decide|omega);exact rfl)|((first|(apply kR;iterate 2 exact rfl)|(apply kQ;exact rfl));all_goals(intro hc;try simp only[hcs]at hc;try(exfalso;first|contradiction|omega))))
    apply CW.loop [2, 8, 40, 41, 42, 43, 44, 45, 46, 47, 48, 49, 50, 51, 52, 53, 54, 55, 56, 57, 58, 59] (fun k : Nat => k ≤ l1.length) (fun k => [(8, Value.int .i64 (k : Int))])
      (fun _ => St w NoF [mS a1 c1 l1, bunB l1, qO bo fo so Lo, rO bb ab1 cb1 Lb1, qO ba fa sa1 La1, rdA (some ⟨bl, ol, none⟩) (l.flatMap DeedA.row)]) (fun k => l1.length - k)
    · exact fun w' hw' => ⟨0, by simp, ⟨rfl, trivial⟩, hw'⟩
    rintro k g1 hk
    by_cases hlk : k < l1.length
    · obtain ⟨bx, ox, rfl⟩ := dr.hr.form (rows_ne MsgA.row_len (i := k) (by omega) (show k < ms.length by omega))
      have hx := dr.hR ms[k] (List.getElem_mem _)
      have hek : l1[k].m = ms[k].m := by
        have := congrArg (fun z => z[k]?) e1
        simpa [hlk, show k < ms.length by omega] using this
      refine LR_cls_cw fun w1 hw1 => ?_
      obtain ⟨by_, oy, rfl⟩ := (ownsRow_rd hw1.g0).form (rows_ne MsgA.row_len (i := k) (by omega) hlk)
      refine CW.sub (D := St w NoF _) ?_ (fun u e => e ▸ hw1)
      clear hw1 w1
      have hkm : k < ms.length := by omega
      repeat'(first|(apply CW.reg_heldC)|(apply kp;iterate 2 exact rfl)|apply jJ|(apply jE;exact rfl)|(apply jp;exact rfl)|(apply jc;kernel_rfl)|((first|apply kf|apply kn|apply ke|apply kx|apply kc|apply kb);iterate 2 exact rfl)|((first|apply kz|apply ky);(·exact rfl);(·repeat(first|exact iO|exact iR rfl|apply iT));iterate 2 exact rfl)|(apply kg;iterate 2 exact rfl)|(apply kG;iterate 3 exact rfl)|(apply kB;(iterate 2 exact rfl);intro _)|(apply kA;exact rfl;intro _)|(apply kK;(iterate 4 exact rfl);intro _)|(apply kU;(iterate 2 exact rfl);(·repeat(first|exact sH _ _ _|apply sT));(first|exact nfL_eq rfl|exact rfl);exact rfl)|((first|apply kh|apply kl);(iterate 2 exact rfl);(first|decide|omega);exact rfl)|((first|(apply kR;iterate 2 exact rfl)|(apply kQ;exact rfl));all_goals(intro hc;try simp only[hcs]at hc;try(exfalso;first|contradiction|omega))))
      all_goals (
        apply DW.quiet [0, 1, 2, 3, 4, 5, 6, 7, 8, 9, 10, 11]
        · decide +kernel
        · first | exact fun _ h => h | exact fun _ h => St.sub h (by repeat (first | exact List.Sublist.refl _ | apply List.Sublist.cons_cons | apply List.Sublist.cons))
        repeat'(first|(apply yp;iterate 3 exact rfl)|(apply QL.ev;(·exact rfl);(·first|((first|apply Ez|apply Ey);(·exact rfl);(·repeat(first|exact iO|exact iR rfl|apply iT));exact rfl)|((first|apply Ev.fieldAddr|apply Ev.len|apply EqOf.eq|apply EqOf.ne|apply Ev.conv|apply Ev.buildN);exact rfl)|((first|apply Ev.shr|apply Ev.shl);(iterate 2 exact rfl);first|decide|omega));·exact rfl)|(apply QL.ev; (· exact rfl); (· first | (apply Ev.indexAddr; (· exact rfl); (· exact rfl); (· omega); (· omega)) | (apply Ev.load; (· exact rfl); (· intro w' hw'; refine ldp w' (hw'.rd_of ?_) _ ?_; (· (repeat (first | exact mH _ _ | apply mT))); (· simp; done))) | (apply Ev.load_agg_at (cs := l1[k].row); (· exact rfl); (· exact rfl); (· intro w' hw'; exact rd_row (l := l1) (i := k) MsgA.row_len (hw'.rd_of_own (mH _ _)) hlk (by simp))) | (apply Ev.load_agg_at (cs := ms[k].row); (· exact rfl); (· exact rfl); (· intro w' hw'; exact rd_row (l := ms) (i := k) MsgA.row_len (hw'.oldRd dr.hr) hkm (by simp)))); (· exact rfl))|(apply yq;iterate 5 exact rfl)|(apply QL.evg;(iterate 3 exact rfl);(·first|((first|apply Ez|apply Ey);(·exact rfl);(·repeat(first|exact iO|exact iR rfl|apply iT));exact rfl)|((first|apply Ev.fieldAddr|apply Ev.len|apply EqOf.eq|apply EqOf.ne|apply Ev.conv|apply Ev.buildN);exact rfl)|((first|apply Ev.shr|apply Ev.shl);(iterate 2 exact rfl);first|decide|omega));·exact rfl)|(apply yn;iterate 4 exact rfl)|((apply QL.split;iterate 3 exact rfl);all_goals(intro hc;try simp only[hcs]at hc;try(exfalso;first|contradiction|omega)))|apply QL.nil)
        all_goals (show DW _ _ _ _ _ _ _ _))
      all_goals (
        apply DW.loud 12
        · exact rfl
        · decide +kernel
        repeat'(first|(apply kg;iterate 2 exact rfl)|(apply kG;iterate 3 exact rfl)|apply kM|(apply kp;iterate 2 exact rfl)|((first|apply kz|apply ky);(·exact rfl);(·repeat(first|exact iO|exact iR rfl|apply iT));iterate 2 exact rfl)|(apply kK;(iterate 4 exact rfl);intro _)|(apply kU;(iterate 2 exact rfl);(·repeat(first|exact sH _ _ _|apply sT));(first|exact nfL_eq rfl|exact rfl);exact rfl)|(apply kB;(iterate 2 exact rfl);intro _)|(apply kA;exact rfl;intro _)|(apply kq; (· exact rfl); (· intro w1 h1; have hq := CallsTo.q (c20 l1[k].m ms[k].m l1[k].a ms[k].a l1[k].c ms[k].c w1 (bun_MR (h1.holds (bunB l1) (by (repeat (first | exact mH _ _ | apply mT)))) k1 l1[k] (List.getElem_mem _)).hr (h1.oldRd hx.hr) (k1 l1[k] (List.getElem_mem _)).2) h1; rw [show sameB l1[k].m ms[k].m = true by rw [hek]; exact sameB_self _] at hq; show CallsTo Try.prog 20 [l1[k].m.val l1[k].a l1[k].c, ms[k].m.val ms[k].a ms[k].c] w1 _; exact hq)))
        all_goals (refine At.stage_same (fun _ h => St.sub h (by repeat (first | exact List.Sublist.refl _ | apply List.Sublist.cons_cons | apply List.Sublist.cons))) ?_))
      all_goals (
        apply DW.quiet [13]
        · decide +kernel
        · first | exact fun _ h => h | exact fun _ h => St.sub h (by repeat (first | exact List.Sublist.refl _ | apply List.Sublist.cons_cons | apply List.Sublist.cons))
        repeat'(first|(apply yp;iterate 3 exact rfl)|(apply QL.ev;(·exact rfl);(·first|((first|apply Ez|apply Ey);(·exact rfl);(·repeat(first|exact iO|exact iR rfl|apply iT));exact rfl)|((first|apply Ev.fieldAddr|apply Ev.len|apply EqOf.eq|apply EqOf.ne|apply Ev.conv|apply Ev.buildN);exact rfl)|((first|apply Ev.shr|apply Ev.shl);(iterate 2 exact rfl);first|decide|omega));·exact rfl)|(apply QL.ev; (· exact rfl); (· first | (apply Ev.indexAddr; (· exact rfl); (· exact rfl); (· omega); (· omega)) | (apply Ev.load; (· exact rfl); (· intro w' hw'; refine ldp w' (hw'.rd_of ?_) _ ?_; (· (repeat (first | exact mH _ _ | apply mT))); (· simp; done))) | (apply Ev.load_agg_at (cs := l1[k].row); (· exact rfl); (· exact rfl); (· intro w' hw'; exact rd_row (l := l1) (i := k) MsgA.row_len (hw'.rd_of_own (mH _ _)) hlk (by simp))) | (apply Ev.load_agg_at (cs := ms[k].row); (· exact rfl); (· exact rfl); (· intro w' hw'; exact rd_row (l := ms) (i := k) MsgA.row_len (hw'.oldRd dr.hr) hkm (by simp)))); (· exact rfl))|(apply yq;iterate 5 exact rfl)|(apply QL.evg;(iterate 3 exact rfl);(·first|((first|apply Ez|apply Ey);(·exact rfl);(·repeat(first|exact iO|exact iR rfl|apply iT));exact rfl)|((first|apply Ev.fieldAddr|apply Ev.len|apply EqOf.eq|apply EqOf.ne|apply Ev.conv|apply Ev.buildN);exact rfl)|((first|apply Ev.shr|apply Ev.shl);(iterate 2 exact rfl);first|decide|omega));·exact rfl)|(apply yn;iterate 4 exact rfl)|((apply QL.split;iterate 3 exact rfl);all_goals(intro hc;try simp only[hcs]at hc;try(exfalso;first|contradiction|omega)))|apply QL.nil)
        all_goals (show DW _ _ _ _ _ _ _ _))
      all_goals (first | (apply DW.done_thn; (· decide +kernel)) | (apply DW.done; (· decide +kernel)))
      repeat'(first|(apply kp;iterate 2 exact rfl)|apply jJ|(apply jE;exact rfl)|(apply jp;exact rfl)|(apply jc;kernel_rfl)|((first|apply kf|apply kn|apply ke|apply kx|apply kc|apply kb);iterate 2 exact rfl)|((first|apply kz|apply ky);(·exact rfl);(·repeat(first|exact iO|exact iR rfl|apply iT));iterate 2 exact rfl)|(apply kg;iterate 2 exact rfl)|(apply kG;iterate 3 exact rfl)|(apply kB;(iterate 2 exact rfl);intro _)|(apply kA;exact rfl;intro _)|(apply kK;(iterate 4 exact rfl);intro _)|(apply kU;(iterate 2 exact rfl);(·repeat(first|exact sH _ _ _|apply sT));(first|exact nfL_eq rfl|exact rfl);exact rfl)|((first|apply kh|apply kl);(iterate 2 exact rfl);(first|decide|omega);exact rfl)|(apply addX;(iterate 2 exact rfl);(iterate 2(first|omega|(dsimp only;omega)));exact rfl)|((first|(apply kR;iterate 2 exact rfl)|(apply kQ;exact rfl));all_goals(intro hc;try simp only[hcs]at hc;try(exfalso;first|contradiction|omega))))
      apply At.again (k + 1)
      · show k + 1 ≤ _
        omega
      · (repeat (first | exact Out.refl _ _ | exact Out.mix | (apply Out.upd; (· exact rfl)) | (apply Out.updL; (· exact rfl)) | (apply Out.mixs; (· exact rfl))))
      · exact ⟨rfl, trivial⟩
      · exact fun w' hw' => hw'
      · show l1.length - (k + 1) < l1.length - k
        omega
    repeat'(first|(apply kp;iterate 2 exact rfl)|apply jJ|(apply jE;exact rfl)|(apply jp;exact rfl)|(apply jc;kernel_rfl)|((first|apply kf|apply kn|apply ke|apply kx|apply kc|apply kb);iterate 2 exact rfl)|((first|apply kz|apply ky);(·exact rfl);(·repeat(first|exact iO|exact iR rfl|apply iT));iterate 2 exact rfl)|(apply kg;iterate 2 exact rfl)|(apply kG;iterate 3 exact rfl)|(apply kB;(iterate 2 exact rfl);intro _)|(apply kA;exact rfl;intro _)|(apply kK;(iterate 4 exact rfl);intro _)|(apply kU;(iterate 2 exact rfl);(·repeat(first|exact sH _ _ _|apply sT));(first|exact nfL_eq rfl|exact rfl);exact rfl)|((first|apply kh|apply kl);(iterate 2 exact rfl);(first|decide|omega);exact rfl)|((first|(apply kR;iterate 2 exact rfl)|(apply kQ;exact rfl));all_goals(intro hc;try simp only[hcs]at hc;try(exfalso;first|contradiction|omega))))
    apply LR.call
    · exact rfl
    intro w1 h1
    have h1' := sO_shut (h1.osl_odl (sH _ _ _))
    refine (c43 a1 c1 l1 w1 h1'.g0 (by omega) (fun x hx => (k1 x hx).2)).mono ?_
    rintro v w2 ⟨l2, st⟩
    have h2 := h1'.one' st rfl (sO_dep _ _ _) (sH _ _ _)
    refine LR.back h2.tail1 ?_
    clear h2 h1 h1' st
    repeat'(first|(apply kp;iterate 2 exact rfl)|apply jJ|(apply jE;exact rfl)|(apply jp;exact rfl)|(apply jc;kernel_rfl)|((first|apply kf|apply kn|apply ke|apply kx|apply kc|apply kb);iterate 2 exact rfl)|((first|apply kz|apply ky);(·exact rfl);(·repeat(first|exact iO|exact iR rfl|apply iT));iterate 2 exact rfl)|(apply kg;iterate 2 exact rfl)|(apply kG;iterate 3 exact rfl)|(apply kB;(iterate 2 exact rfl);intro _)|(apply kA;exact rfl;intro _)|(apply kK;(iterate 4 exact rfl);intro _)|(apply kU;(iterate 2 exact rfl);(·repeat(first|exact sH _ _ _|apply sT));(first|exact nfL_eq rfl|exact rfl);exact rfl)|((first|apply kh|apply kl);(iterate 2 exact rfl);(first|decide|omega);exact rfl)|(apply idxX;(iterate 2 exact rfl);(iterate 2(first|omega|(dsimp only;omega)));exact rfl)|(apply LR.ev; (· apply Ev.load; (· exact rfl); (· intro w' hw'; refine ldp w' (hw'.rd_of ?_) _ ?_; (· (repeat (first | exact mH _ _ | apply mT))); (· simp; done))); (· exact rfl))|((first|(apply kR;iterate 2 exact rfl)|(apply kQ;exact rfl));all_goals(intro hc;try simp only[hcs]at hc;try(exfalso;first|contradiction|omega))))
    apply LR.call
    · exact rfl
    intro w1 h1
    refine CallsTo.mono (put_deed (b := bo) (first := fo) (slots := so) (L := Lo) (x := ⟨xa, xc, ms, tk⟩) h1 (by (repeat (first | exact mH _ _ | apply mT))) ro dr) ?_
    rintro v w2 ⟨so1, Lo1, rfl, ro1, _, st⟩
    have h2 := h1.one' st rfl (qO_dep _ _ _ _) (by (repeat (first | exact sH _ _ _ | apply sT)))
    refine LR.back h2 ?_
    clear h2 h1 st
    repeat'(first|(apply kp;iterate 2 exact rfl)|apply jJ|(apply jE;exact rfl)|(apply jp;exact rfl)|(apply jc;kernel_rfl)|((first|apply kf|apply kn|apply ke|apply kx|apply kc|apply kb);iterate 2 exact rfl)|((first|apply kz|apply ky);(·exact rfl);(·repeat(first|exact iO|exact iR rfl|apply iT));iterate 2 exact rfl)|(apply kg;iterate 2 exact rfl)|(apply kG;iterate 3 exact rfl)|(apply kB;(iterate 2 exact rfl);intro _)|(apply kA;exact rfl;intro _)|(apply kK;(iterate 4 exact rfl);intro _)|(apply kU;(iterate 2 exact rfl);(·repeat(first|exact sH _ _ _|apply sT));(first|exact nfL_eq rfl|exact rfl);exact rfl)|((first|apply kh|apply kl);(iterate 2 exact rfl);(first|decide|omega);exact rfl)|((first|(apply kR;iterate 2 exact rfl)|(apply kQ;exact rfl));all_goals(intro hc;try simp only[hcs]at hc;try(exfalso;first|contradiction|omega))))
    apply CW.loop [2, 9, 10, 11, 12, 13, 69, 70, 71, 72, 73, 74, 75, 76, 77, 78, 79, 80, 81, 82, 83, 84, 85, 86, 87, 88, 89, 90, 91, 92, 93, 94, 95, 96, 97, 98, 99, 100, 101, 102, 103] (fun s : Nat × D3 => s.1 ≤ 40 ∧ s.2.Ok) (fun s => [(9, Value.int .i64 (s.1 : Int))])
      (fun s => St w NoF [qO bo s.2.fo s.2.so s.2.Lo, rO bb s.2.ab s.2.cb s.2.Lb, qO ba s.2.fa s.2.sa s.2.La, rdA (some ⟨bl, ol, none⟩) (l.flatMap DeedA.row)]) (fun s => 40 - s.1)
    · exact fun w' hw' => ⟨(0, ⟨fa, sa1, La1, ab1, cb1, Lb1, fo, so1, Lo1⟩), ⟨by simp, ⟨ra1, ro1, hm2, hb2⟩⟩, ⟨rfl, trivial⟩, hw'⟩
    clear hb2 hm2 ra1 ro1
    rintro ⟨k, fa2, sa2, La2, ab2, cb2, Lb2, fo2, so2, Lo2⟩ g2 ⟨hk, ra2, ro2, hm2, hb2⟩
    simp only at hk ra2 ro2 hm2 hb2 ⊢
    have hq2 : Lb2.length = La2.length := by have := congrArg List.length hm2; simpa using this.symm
    have hL2 := ra2.hL
    by_cases hlt2 : (k : Int) < tk ∧ k < 40
    · obtain ⟨hk1, hk2⟩ := hlt2
      rcases La2 with _ | ⟨x, La2⟩
      · have hbl : Lb2 = [] := List.eq_nil_of_length_eq_zero hq2
        subst hbl
        repeat'(first|(apply kp;iterate 2 exact rfl)|apply jJ|(apply jE;exact rfl)|(apply jp;exact rfl)|(apply jc;kernel_rfl)|((first|apply kf|apply kn|apply ke|apply kx|apply kc|apply kb);iterate 2 exact rfl)|((first|apply kz|apply ky);(·exact rfl);(·repeat(first|exact iO|exact iR rfl|apply iT));iterate 2 exact rfl)|(apply kg;iterate 2 exact rfl)|(apply kG;iterate 3 exact rfl)|(apply kB;(iterate 2 exact rfl);intro _)|(apply kA;exact rfl;intro _)|(apply kK;(iterate 4 exact rfl);intro _)|(apply kU;(iterate 2 exact rfl);(·repeat(first|exact sH _ _ _|apply sT));(first|exact nfL_eq rfl|exact rfl);exact rfl)|((first|apply kh|apply kl);(iterate 2 exact rfl);(first|decide|omega);exact rfl)|(apply idxX;(iterate 2 exact rfl);(iterate 2(first|omega|(dsimp only;omega)));exact rfl)|(apply LR.ev; (· apply Ev.load; (· exact rfl); (· intro w' hw'; refine ldt w' (hw'.rd_of ?_) _ ?_; (· (repeat (first | exact mH _ _ | apply mT))); (· simp; done))); (· exact rfl))|(apply kq; (· exact rfl); (· intro w1 h1; first | exact CallsTo.q (c44e ba fa2 sa2 w1 (qO_rd (h1.holds (qO ba fa2 sa2 []) (by (repeat (first | exact mH _ _ | apply mT)))))) h1 | exact CallsTo.q (c45e bb ab2 cb2 w1 (rO_rd (h1.holds (rO bb ab2 cb2 []) (by (repeat (first | exact mH _ _ | apply mT)))) rfl)) h1 | (have hq := CallsTo.q (c20 zeroMsg zeroMsg none none 0 0 w1 (Rd.nil _ _) (Rd.nil _ _) (by simp [zeroMsg])) h1; rw [sameB_self] at hq; show CallsTo Try.prog 20 [zeroMsg.val none 0, zeroMsg.val none 0] w1 _; exact hq)))|((first|(apply kR;iterate 2 exact rfl)|(apply kQ;exact rfl));all_goals(intro hc;try simp only[hcs]at hc;try(exfalso;first|contradiction|omega))))
        apply LR.call
        · exact rfl
        intro w1 h1
        have h3 := one_sO (x := zeroA) (front (h1.nilsl 5 1) 1 rfl rfl)
        refine CallsTo.mono (show CallsTo Try.prog 43 _ w1 _ from c43 (some ⟨_, 0, none⟩) 1 [zeroA] w1 h3.g0 (by simp) (by simp [zeroA, zeroMsg])) ?_
        rintro v w2 ⟨l2, st⟩
        have h4 := h3.one' st rfl (sO_dep _ _ _) (sH _ _ _)
        refine LR.back (h4.sub (L' := [qO bo fo2 so2 Lo2, rO bb ab2 cb2 [], qO ba fa2 sa2 [], rdA (some ⟨bl, ol, none⟩) (l.flatMap DeedA.row)]) (by repeat (first | exact List.Sublist.refl _ | apply List.Sublist.cons_cons | apply List.Sublist.cons))) ?_
        clear h4 h3 h1 st
        repeat'(first|(apply kp;iterate 2 exact rfl)|apply jJ|(apply jE;exact rfl)|(apply jp;exact rfl)|(apply jc;kernel_rfl)|((first|apply kf|apply kn|apply ke|apply kx|apply kc|apply kb);iterate 2 exact rfl)|((first|apply kz|apply ky);(·exact rfl);(·repeat(first|exact iO|exact iR rfl|apply iT));iterate 2 exact rfl)|(apply kg;iterate 2 exact rfl)|(apply kG;iterate 3 exact rfl)|(apply kB;(iterate 2 exact rfl);intro _)|(apply kA;exact rfl;intro _)|(apply kK;(iterate 4 exact rfl);intro _)|(apply kU;(iterate 2 exact rfl);(·repeat(first|exact sH _ _ _|apply sT));(first|exact nfL_eq rfl|exact rfl);exact rfl)|((first|apply kh|apply kl);(iterate 2 exact rfl);(first|decide|omega);exact rfl)|(apply addX;(iterate 2 exact rfl);(iterate 2(first|omega|(dsimp only;omega)));exact rfl)|((first|(apply kR;iterate 2 exact rfl)|(apply kQ;exact rfl));all_goals(intro hc;try simp only[hcs]at hc;try(exfalso;first|contradiction|omega))))
        apply At.again (k + 1, ⟨fa2, sa2, [], ab2, cb2, [], fo2, so2, Lo2⟩)
        · exact ⟨by show k + 1 ≤ 40; omega, ra2, ro2, hm2, hb2⟩
        · (repeat (first | exact Out.refl _ _ | exact Out.mix | (apply Out.upd; (· exact rfl)) | (apply Out.updL; (· exact rfl)) | (apply Out.mixs; (· exact rfl))))
        · exact ⟨rfl, trivial⟩
        · exact fun w' hw' => hw'
        · show 40 - (k + 1) < 40 - k
          omega
      · rcases Lb2 with _ | ⟨y, Lb2⟩
        · simp at hq2
        simp only [List.map_cons, List.cons.injEq] at hm2
        have hxy := hm2.1
        have hby := hb2 y List.mem_cons_self
        repeat'(first|(apply kp;iterate 2 exact rfl)|apply jJ|(apply jE;exact rfl)|(apply jp;exact rfl)|(apply jc;kernel_rfl)|((first|apply kf|apply kn|apply ke|apply kx|apply kc|apply kb);iterate 2 exact rfl)|((first|apply kz|apply ky);(·exact rfl);(·repeat(first|exact iO|exact iR rfl|apply iT));iterate 2 exact rfl)|(apply kg;iterate 2 exact rfl)|(apply kG;iterate 3 exact rfl)|(apply kB;(iterate 2 exact rfl);intro _)|(apply kA;exact rfl;intro _)|(apply kK;(iterate 4 exact rfl);intro _)|(apply kU;(iterate 2 exact rfl);(·repeat(first|exact sH _ _ _|apply sT));(first|exact nfL_eq rfl|exact rfl);exact rfl)|((first|apply kh|apply kl);(iterate 2 exact rfl);(first|decide|omega);exact rfl)|(apply idxX;(iterate 2 exact rfl);(iterate 2(first|omega|(dsimp only;omega)));exact rfl)|(apply LR.ev; (· apply Ev.load; (· exact rfl); (· intro w' hw'; refine ldt w' (hw'.rd_of ?_) _ ?_; (· (repeat (first | exact mH _ _ | apply mT))); (· simp; done))); (· exact rfl))|((first|(apply kR;iterate 2 exact rfl)|(apply kQ;exact rfl));all_goals(intro hc;try simp only[hcs]at hc;try(exfalso;first|contradiction|omega))))
        apply LR.call
        · exact rfl
        intro w1 h1
        refine (take_own ba fa2 sa2 La2 x w1 (h1.holds (qO ba fa2 sa2 (x :: La2)) (by (repeat (first | exact mH _ _ | apply mT)))) ra2).mono ?_
        rintro v w2 ⟨rfl, sa3, ra3, st⟩
        have h2 := h1.two st rfl rfl rfl (by (repeat (first | exact sH _ _ _ | apply sT)))
        refine LR.back h2 ?_
        clear h2 h1 st
        repeat'(first|(apply kp;iterate 2 exact rfl)|apply jJ|(apply jE;exact rfl)|(apply jp;exact rfl)|(apply jc;kernel_rfl)|((first|apply kf|apply kn|apply ke|apply kx|apply kc|apply kb);iterate 2 exact rfl)|((first|apply kz|apply ky);(·exact rfl);(·repeat(first|exact iO|exact iR rfl|apply iT));iterate 2 exact rfl)|(apply kg;iterate 2 exact rfl)|(apply kG;iterate 3 exact rfl)|(apply kB;(iterate 2 exact rfl);intro _)|(apply kA;exact rfl;intro _)|(apply kK;(iterate 4 exact rfl);intro _)|(apply kU;(iterate 2 exact rfl);(·repeat(first|exact sH _ _ _|apply sT));(first|exact nfL_eq rfl|exact rfl);exact rfl)|((first|apply kh|apply kl);(iterate 2 exact rfl);(first|decide|omega);exact rfl)|((first|(apply kR;iterate 2 exact rfl)|(apply kQ;exact rfl));all_goals(intro hc;try simp only[hcs]at hc;try(exfalso;first|contradiction|omega))))
        apply LR.call
        · exact rfl
        intro w1 h1
        refine (c45 bb ab2 cb2 y Lb2 w1 (h1.holds (rO bb ab2 cb2 (y :: Lb2)) (by (repeat (first | exact mH _ _ | apply mT))))).mono ?_
        rintro v w2 ⟨rfl, ab3, cb3, st⟩
        have h2 := h1.two st rfl rfl rfl (by (repeat (first | exact sH _ _ _ | apply sT)))
        refine LR.back h2 ?_
        clear h2 h1 st
        have hxl : x.m.body.length ≤ 140737488355328 := by rw [hxy]; exact hby
        repeat'(first|(apply kp;iterate 2 exact rfl)|apply jJ|(apply jE;exact rfl)|(apply jp;exact rfl)|(apply jc;kernel_rfl)|((first|apply kf|apply kn|apply ke|apply kx|apply kc|apply kb);iterate 2 exact rfl)|((first|apply kz|apply ky);(·exact rfl);(·repeat(first|exact iO|exact iR rfl|apply iT));iterate 2 exact rfl)|(apply kg;iterate 2 exact rfl)|(apply kG;iterate 3 exact rfl)|(apply kB;(iterate 2 exact rfl);intro _)|(apply kA;exact rfl;intro _)|(apply kK;(iterate 4 exact rfl);intro _)|(apply kU;(iterate 2 exact rfl);(·repeat(first|exact sH _ _ _|apply sT));(first|exact nfL_eq rfl|exact rfl);exact rfl)|((first|apply kh|apply kl);(iterate 2 exact rfl);(first|decide|omega);exact rfl)|(apply kq; (· exact rfl); (· intro w1 h1; (have hq := CallsTo.q (c20 x.m y.m x.a y.a x.c y.c w1 (h1.rd_of_own (by (repeat (first | exact mH _ _ | apply mT)))) (h1.rd_of_own (by (repeat (first | exact mH _ _ | apply mT)))) hxl) h1; rw [show sameB x.m y.m = true by rw [hxy]; exact sameB_self _] at hq; show CallsTo Try.prog 20 [x.m.val x.a x.c, y.m.val y.a y.c] w1 _; exact hq)))|((first|(apply kR;iterate 2 exact rfl)|(apply kQ;exact rfl));all_goals(intro hc;try simp only[hcs]at hc;try(exfalso;first|contradiction|omega))))
        apply LR.call
        · exact rfl
        intro w1 h1
        have h3 := one_sO (x := x) (front (front h1 4 rfl rfl) 1 rfl rfl)
        refine CallsTo.mono (show CallsTo Try.prog 43 _ w1 _ from c43 (some ⟨_, 0, none⟩) 1 [x] w1 h3.g0 (by simp) (by simpa using hxl)) ?_
        rintro v w2 ⟨l2, st⟩
        have h4 := h3.one' st rfl (sO_dep _ _ _) (sH _ _ _)
        refine LR.back (h4.sub (L' := [qO bo fo2 so2 Lo2, rO bb ab3 cb3 Lb2, qO ba ((fa2 + 1) % 32) sa3 La2, rdA (some ⟨bl, ol, none⟩) (l.flatMap DeedA.row)]) (by repeat (first | exact List.Sublist.refl _ | apply List.Sublist.cons_cons | apply List.Sublist.cons))) ?_
        clear h4 h3 h1 st
        repeat'(first|(apply kp;iterate 2 exact rfl)|apply jJ|(apply jE;exact rfl)|(apply jp;exact rfl)|(apply jc;kernel_rfl)|((first|apply kf|apply kn|apply ke|apply kx|apply kc|apply kb);iterate 2 exact rfl)|((first|apply kz|apply ky);(·exact rfl);(·repeat(first|exact iO|exact iR rfl|apply iT));iterate 2 exact rfl)|(apply kg;iterate 2 exact rfl)|(apply kG;iterate 3 exact rfl)|(apply kB;(iterate 2 exact rfl);intro _)|(apply kA;exact rfl;intro _)|(apply kK;(iterate 4 exact rfl);intro _)|(apply kU;(iterate 2 exact rfl);(·repeat(first|exact sH _ _ _|apply sT));(first|exact nfL_eq rfl|exact rfl);exact rfl)|((first|apply kh|apply kl);(iterate 2 exact rfl);(first|decide|omega);exact rfl)|(apply addX;(iterate 2 exact rfl);(iterate 2(first|omega|(dsimp only;omega)));exact rfl)|((first|(apply kR;iterate 2 exact rfl)|(apply kQ;exact rfl));all_goals(intro hc;try simp only[hcs]at hc;try(exfalso;first|contradiction|omega))))
        apply At.again (k + 1, ⟨(fa2 + 1) % 32, sa3, La2, ab3, cb3, Lb2, fo2, so2, Lo2⟩)
        · exact ⟨by show k + 1 ≤ 40; omega, ra3, ro2, hm2.2, fun z hz => hb2 z (List.mem_cons_of_mem _ hz)⟩
        · (repeat (first | exact Out.refl _ _ | exact Out.mix | (apply Out.upd; (· exact rfl)) | (apply Out.updL; (· exact rfl)) | (apply Out.mixs; (· exact rfl))))
        · exact ⟨rfl, trivial⟩
        · exact fun w' hw' => hw'
        · show 40 - (k + 1) < 40 - k
          omega
    · repeat'(first|(apply kp;iterate 2 exact rfl)|apply jJ|(apply jE;exact rfl)|(apply jp;exact rfl)|(apply jc;kernel_rfl)|((first|apply kf|apply kn|apply ke|apply kx|apply kc|apply kb);iterate 2 exact rfl)|((first|apply kz|apply ky);(·exact rfl);(·repeat(first|exact iO|exact iR rfl|apply iT));iterate 2 exact rfl)|(apply kg;iterate 2 exact rfl)|(apply kG;iterate 3 exact rfl)|(apply kB;(iterate 2 exact rfl);intro _)|(apply kA;exact rfl;intro _)|(apply kK;(iterate 4 exact rfl);intro _)|(apply kU;(iterate 2 exact rfl);(·repeat(first|exact sH _ _ _|apply sT));(first|exact nfL_eq rfl|exact rfl);exact rfl)|((first|apply kh|apply kl);(iterate 2 exact rfl);(first|decide|omega);exact rfl)|(apply idxX;(iterate 2 exact rfl);(iterate 2(first|omega|(dsimp only;omega)));exact rfl)|(apply LR.ev; (· apply Ev.load; (· exact rfl); (· intro w' hw'; refine ldt w' (hw'.rd_of ?_) _ ?_; (· (repeat (first | exact mH _ _ | apply mT))); (· simp; done))); (· exact rfl))|(apply kq; (· exact rfl); (· intro w1 h1; first | exact CallsTo.q (c46 ba fa2 La2.length sa2 w1 (qO_rd (h1.holds (qO ba fa2 sa2 La2) (by (repeat (first | exact mH _ _ | apply mT)))))) h1 | exact CallsTo.q (c47 bb ab2 cb2 La2.length w1 (rO_rd (h1.holds (rO bb ab2 cb2 Lb2) (by (repeat (first | exact mH _ _ | apply mT)))) hq2)) h1 | exact CallsTo.q (c48 ba fa2 La2.length sa2 w1 (qO_rd (h1.holds (qO ba fa2 sa2 La2) (by (repeat (first | exact mH _ _ | apply mT))))) hL2) h1 | exact CallsTo.q (c49 bb ab2 cb2 La2.length w1 (rO_rd (h1.holds (rO bb ab2 cb2 Lb2) (by (repeat (first | exact mH _ _ | apply mT)))) hq2) (by omega)) h1))|(apply addX;(iterate 2 exact rfl);(iterate 2(first|omega|(dsimp only;omega)));exact rfl)|((first|(apply kR;iterate 2 exact rfl)|(apply kQ;exact rfl));all_goals(intro hc;try simp only[hcs]at hc;try(exfalso;first|contradiction|omega))))
      all_goals (
        apply At.again (i + 1, ⟨fa2, sa2, La2, ab2, cb2, Lb2, fo2, so2, Lo2⟩)
        · exact ⟨by show i + 1 ≤ _; omega, ra2, ro2, hm2, hb2⟩
        · (repeat (first | exact Out.refl _ _ | exact Out.mix | (apply Out.upd; (· exact rfl)) | (apply Out.updL; (· exact rfl)) | (apply Out.mixs; (· exact rfl))))
        · exact ⟨rfl, trivial⟩
        · exact fun w' hw' => hw'.sub (by repeat (first | exact List.Sublist.refl _ | apply List.Sublist.cons_cons | apply List.Sublist.cons))
        · show l.length - (i + 1) < l.length - i
          omega)
  · repeat'(first|(apply kp;iterate 2 exact rfl)|apply jJ|(apply jE;exact rfl)|(apply jp;exact rfl)|(apply jc;kernel_rfl)|((first|apply kf|apply kn|apply ke|apply kx|apply kc|apply kb);iterate 2 exact rfl)|((first|apply kz|apply ky);(·exact rfl);(·repeat(first|exact iO|exact iR rfl|apply iT));iterate 2 exact rfl)|(apply kg;iterate 2 exact rfl)|(apply kG;iterate 3 exact rfl)|(apply kB;(iterate 2 exact rfl);intro _)|(apply kA;exact rfl;intro _)|(apply kK;(iterate 4 exact rfl);intro _)|(apply kU;(iterate 2 exact rfl);(·repeat(first|exact sH _ _ _|apply sT));(first|exact nfL_eq rfl|exact rfl);exact rfl)|((first|apply kh|apply kl);(iterate 2 exact rfl);(first|decide|omega);exact rfl)|(apply kq; (· exact rfl); (· intro w1 h1; exact CallsTo.q (c50 w1) h1))|((first|(apply kR;iterate 2 exact rfl)|(apply kQ;exact rfl));all_goals(intro hc;try simp only[hcs]at hc;try(exfalso;first|contradiction|omega))))
    (apply ret1; (· exact rfl); intro w' hS)
    exact ⟨rfl, hS.toKeep⟩
end Go.Proofs.Ytomlgnncncjmaaa

namespace Go.Proofs.Ytomlgnncncjmaaa
open Go.Hb Go.ChangeShapes Go.WideShapes
attribute [local irreducible] LR CW At Ev thn blk finK noG again CallsTo DW QL dnext
set_option linter.unusedSimpArgs false
set_option linter.unusedVariables false

set_option maxHeartbeats 1000000 in
set_option maxRecDepth 100000 in
theorem queueDeeds_lifted (os : Os) (started : os.Started) (H : Type) (enc : TypeId × Value → H) :
    ReturnsInHanded {} Try.checked os 10 .any (Rows.queueDeedsSpec.pre6 enc Try.prog Try.f10 Rows.queueDeedsRow.domain false) (Rows.queueDeedsSpec.post enc Try.prog Try.f10 false true false false) := by
  refine returnsInHanded_of_change_sized (C := Try.checked) (s := Rows.queueDeedsSpec) own_knob started (by kernel_rfl) Try.func10
    (ChangeSpec.witness6 (enc := enc) (C := Try.checked) false ⟨#[], #[.slice none 0 0], []⟩ 12 (by kernel_rfl) (by kernel_rfl) (by kernel_rfl) (by kernel_rfl)) ?_
  intro W base args ds gs before hval hW hcnd hwt _
  have hW' := hW
  obtain ⟨p, q, hA0, hV, rfl, hfz, hnd⟩ := hW'
  obtain ⟨rfl, rfl⟩ := trodVars_none hV
  have hA : DataW.TrodAll enc Try.prog W 0 (fun _ => true) true Try.f10.params.toList args.toList ds p := hA0
  rw [Try.params10] at hA
  obtain ⟨v0, vs0, d0, ds0, p0, q0, hargs, rfl, rfl, h0, r0⟩ := trodAll_cons hA
  obtain ⟨rfl, rfl, rfl⟩ := trodAll_nil r0
  obtain rfl : args = #[v0] := by cases args; simp_all
  obtain ⟨a0, c0, l0, hcs0, hr0, hb0, hz0, hc0, hm0⟩ := opn_arg (i := 0) opn_deeds h0 hwt rfl rfl
  obtain ⟨b0, n0, e0, rfl⟩ := okWide_slice Try.underlying64 (hval 0 64 v0 rfl rfl)
  have hcs0 : [Value.slice b0 n0 e0] = [.slice a0 l0.length c0] := hcs0
  simp only [List.cons.injEq, Value.slice.injEq, and_true] at hcs0
  obtain ⟨e10, e20, e30⟩ := hcs0
  have e10 := e10.symm
  have e30 := e30.symm
  subst e10; subst e20; subst e30
  refine (c10 a0 c0 l0 W hr0 hb0 (by omega)).calls fun v W' ⟨hv, hg⟩ => ⟨v, rfl, ?_⟩
  subst hv
  exact law_post kids full_slices hW hg rfl rfl (by kernel_rfl) Try.underlying4 (by rw [Try.params10]; decide +kernel)

theorem queueDeeds_holds : Rows.QueueDeedsSaid :=
  OpenClaim.holds_of_wide 10 Try.f10 rfl rfl rfl rfl rfl rfl rfl ⟨rfl, rfl, rfl, rfl, rfl⟩ rfl rfl rfl rfl rfl (by kernel_rfl) Try.func10 (by kernel_rfl)
    (of_decide_eq_true (by kernel_rfl)) (by unfold Func.isWrapper; first | (rw [if_pos (by decide +kernel)]; kernel_rfl) | (rw [if_neg (by decide +kernel)]; exact ⟨rfl, rfl⟩))
    (fun os started H enc _ => queueDeeds_lifted os started H enc)
end Go.Proofs.Ytomlgnncncjmaaa
