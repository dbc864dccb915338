/-
  Packets read.
-/
import Derived.Test.YtkolmkdbjagfcaaGreatREUM3

set_option linter.unusedSimpArgs false
set_option linter.unusedVariables false
namespace Go.Proofs.YtkolmkdbjagfcaaGreat
open Go.Hb
attribute [local irreducible] LR CW At Ev thn blk finK noG again CallsTo DW QL dnext TW DP
set_option linter.unusedSimpArgs false
set_option linter.unusedVariables false
set_option maxRecDepth 100000

theorem Ev.shape_ne {C : World → Prop} {f : Frm} {T T'' : TypeId} {x y : Operand} {a b c d e a' b' c' d' e' : Bool} (hx : f.ev x = .agg [.bool a, .bool b, .bool c, .bool d, .bool e].toArray) (hy : f.ev y = .agg [.bool a', .bool b', .bool c', .bool d', .bool e'].toArray) : Ev Tryz.prog C f (.binOp .neq 79 x y T'') T (.bool (!decide ([a, b, c, d, e] = [a', b', c', d', e']))) := by
  unfold Ev
  intro w _ dd p af g
  have key : (do eqGuard .neq 79 x y (.agg [.bool a, .bool b, .bool c, .bool d, .bool e].toArray) (.agg [.bool a', .bool b', .bool c', .bool d', .bool e'].toArray); binOp .neq 79 (.agg [.bool a, .bool b, .bool c, .bool d, .bool e].toArray) (.agg [.bool a', .bool b', .bool c', .bool d', .bool e'].toArray) : Sem Value).run Tryz.prog w = .ok (.bool (!decide ([a, b, c, d, e] = [a', b', c', d', e']))) w := by
    have e0 : decide ([a, b, c, d, e] = [a', b', c', d', e']) = (a == a' && (b == b' && (c == c' && (d == d' && e == e')))) := by
      rw [Bool.eq_iff_iff]
      simp
    rw [e0]
    simp [go_sem, Sem.run_bind, run_eqGuard_agg, run_eql_struct, run_neq_struct, run_equalIn_agg, run_equalIn_int, run_equalIn_bool, Tryz.underlying4, Tryz.underlying79, Tryz.stoodInHeld79, Tryz.eqGuardType79, Bool.and_assoc]
    repeat' split
    all_goals simp_all
  simp only [execOp, hx, hy]
  rw [Sem.run_bind, key]
  rfl
def shapeB (p : Pkt) : List Bool := [dataS p.d, tokS p.t, joinS p, comS p.c, beaS p]
def wantK (k : Int) : List Bool := [decide (k = 1), decide (k = 2), decide (k = 3), decide (k = 4), decide (k = 5)]
def mayP (p : Pkt) : Bool :=
  if p.kind = 1 then decide (p.to = 0) && mayD p.d
  else if p.kind = 2 then nodeB p.to && mayT p.t
  else if p.kind = 3 then decide (p.to = 0) && nodeB p.j1 && crewOk p.j2 && hasC p.j2 p.j1 && [p.j3].all numB
  else if p.kind = 4 then mayCm p.c p.to
  else if p.kind = 5 then decide (p.to = 0) && liveR p.b1 p.b2 && nodeB p.b3
  else false
def chkP (p : Pkt) : Bool := mayP p && decide (shapeB p = wantK p.kind)
/-- What is known of a packet in memory. -/
structure PktR (w : World) (p : Pkt) (A : PAd) : Prop where
  hd : Rd w A.da (bv p.d.msg.body)
  hdz : A.da = none → A.dc = 0
  hdb : Byt p.d.msg.body
  hdm : p.d.msg.body.length ≤ 140737488351232
  ht : Rd w A.ta (iv p.t.ask)
  htz : A.ta = none → A.tc = 0
  htm : p.t.ask.length ≤ 17592186043904
  hc : Rd w A.ca (p.c.ents.flatMap Ent.cells)
  hcz : A.ca = none → A.cc = 0
  hcm : p.c.ents.length ≤ 2932031007317
def PktI (p : Pkt) : Prop := (-9223372036854775808 ≤ p.c.mem ∧ p.c.mem ≤ 9223372036854775807) ∧ (-9223372036854775808 ≤ p.j2 ∧ p.j2 ≤ 9223372036854775807)
theorem PktR.old {w w' : World} {L : List Asrt} {p : Pkt} {A : PAd} (h : PktR w p A) (hS : St w NoF L w') : PktR w' p A :=
  ⟨hS.oldRd h.hd, h.hdz, h.hdb, h.hdm, hS.oldRd h.ht, h.htz, h.htm, hS.oldRd h.hc, h.hcz, h.hcm⟩
theorem chk_no {p : Pkt} (h : mayP p = false ∨ ¬ shapeB p = wantK p.kind) : (if chkP p then (0 : Int) else 2) = 2 := by
  unfold chkP
  rcases h with h | h
  · rw [h]; rfl
  · rw [decide_eq_false h, Bool.and_false]; rfl
theorem chk_yes {p : Pkt} (h : mayP p = true) (h2 : shapeB p = wantK p.kind) : (if chkP p then (0 : Int) else 2) = 0 := by
  unfold chkP
  rw [h, decide_eq_true h2]; rfl
set_option maxHeartbeats 16000000 in
theorem p31 (p : Pkt) (A : PAd) (w : World) (hR : PktR w p A) (hI : PktI p) : CallsTo Tryz.prog 9 [p.val A] w fun v w' => v = .int .i64 (if chkP p then 0 else 2) ∧ Grew w w' := by
  refine go_in (n := 99) (St.refl _ NoF) Tryz.func9 rfl rfl ?_
  by_cases hk1 : p.kind = 1
  · repeat'(first|(apply kB;(iterate 2 exact rfl);intro b1)|(apply Go.Hb.kK;(iterate 4 exact rfl);intro bs)|refine kv' ?_|apply jJ|refine jE' ?_|refine jp' ?_|(apply jc;kernel_rfl)|refine kg' ?_|refine kG' ?_|refine kB' fun _=>?_|refine kA' fun _=>?_|refine kK' fun _=>?_|refine kU' ?_|(apply kq; (· exact rfl); (· intro w1 h1; first | exact CallsTo.q (p57 p A w1) h1 | exact CallsTo.q (show CallsTo Tryz.prog 35 [p.d.val A.da A.dc] w1 _ from p58 p.d A.da A.dc w1 (hR.old h1).hd hR.hdz (by have := hR.hdm; omega) hR.hdb) h1 | exact CallsTo.q (p59 p.to w1) h1 | exact CallsTo.q (show CallsTo Tryz.prog 37 [p.t.val A.ta A.tc] w1 _ from p60 p.t A.ta A.tc w1 (hR.old h1).ht) h1 | exact CallsTo.q (p59 p.j1 w1) h1 | exact CallsTo.q (q61 p.j2 w1 hI.2) h1 | exact CallsTo.q (q23 p.j2 p.j1 w1) h1 | exact CallsTo.q (p62 (some ⟨bs, 0, none⟩) 1 [p.j3] w1 (h1.rd_of_blk (by (repeat (first | exact mH _ _ | apply mT)))) (by simp)) h1 | exact CallsTo.q (show CallsTo Tryz.prog 41 [p.c.val A.ca A.cc, .int .i64 p.to] w1 _ from p63 p.c p.to A.ca A.cc w1 (hR.old h1).hc hI.1) h1 | exact CallsTo.q (p64 p.b1 p.b2 w1) h1 | exact CallsTo.q (p59 p.b3 w1) h1))|(apply LR.ev; (· exact Ev.shape_ne (a := dataS p.d) (b := tokS p.t) (c := joinS p) (d := comS p.c) (e := beaS p) rfl rfl); (· exact rfl))|((first|refine kR' ?_ ?_|refine kQ' ?_ ?_);all_goals(intro hc;try simp only[hcs]at hc;try(exfalso;first|contradiction|omega))))
    all_goals (
      (apply ret1; (· exact rfl); intro w' hS)
      refine ⟨congrArg (Value.int .i64) ?_, hS.toKeep⟩
      have hw : wantK p.kind = [true, false, false, false, false] := by rw [hk1]; rfl
      have hm : mayP p = (decide (p.to = 0) && mayD p.d) := by
        unfold mayP
        rw [if_pos hk1]
      first
        | (refine (chk_no (.inr ?_)).symm; rw [hw]; unfold shapeB; simp_all; done)
        | (refine (chk_no (.inl ?_)).symm; rw [hm]; simp_all; done)
        | (refine (chk_yes ?_ ?_).symm; (· rw [hm]; simp_all; done); (· rw [hw]; unfold shapeB; simp_all; done)))
  by_cases hk2 : p.kind = 2
  · repeat'(first|(apply kB;(iterate 2 exact rfl);intro b1)|(apply Go.Hb.kK;(iterate 4 exact rfl);intro bs)|refine kv' ?_|apply jJ|refine jE' ?_|refine jp' ?_|(apply jc;kernel_rfl)|refine kg' ?_|refine kG' ?_|refine kB' fun _=>?_|refine kA' fun _=>?_|refine kK' fun _=>?_|refine kU' ?_|(apply kq; (· exact rfl); (· intro w1 h1; first | exact CallsTo.q (p57 p A w1) h1 | exact CallsTo.q (show CallsTo Tryz.prog 35 [p.d.val A.da A.dc] w1 _ from p58 p.d A.da A.dc w1 (hR.old h1).hd hR.hdz (by have := hR.hdm; omega) hR.hdb) h1 | exact CallsTo.q (p59 p.to w1) h1 | exact CallsTo.q (show CallsTo Tryz.prog 37 [p.t.val A.ta A.tc] w1 _ from p60 p.t A.ta A.tc w1 (hR.old h1).ht) h1 | exact CallsTo.q (p59 p.j1 w1) h1 | exact CallsTo.q (q61 p.j2 w1 hI.2) h1 | exact CallsTo.q (q23 p.j2 p.j1 w1) h1 | exact CallsTo.q (p62 (some ⟨bs, 0, none⟩) 1 [p.j3] w1 (h1.rd_of_blk (by (repeat (first | exact mH _ _ | apply mT)))) (by simp)) h1 | exact CallsTo.q (show CallsTo Tryz.prog 41 [p.c.val A.ca A.cc, .int .i64 p.to] w1 _ from p63 p.c p.to A.ca A.cc w1 (hR.old h1).hc hI.1) h1 | exact CallsTo.q (p64 p.b1 p.b2 w1) h1 | exact CallsTo.q (p59 p.b3 w1) h1))|(apply LR.ev; (· exact Ev.shape_ne (a := dataS p.d) (b := tokS p.t) (c := joinS p) (d := comS p.c) (e := beaS p) rfl rfl); (· exact rfl))|((first|refine kR' ?_ ?_|refine kQ' ?_ ?_);all_goals(intro hc;try simp only[hcs]at hc;try(exfalso;first|contradiction|omega))))
    all_goals (
      (apply ret1; (· exact rfl); intro w' hS)
      refine ⟨congrArg (Value.int .i64) ?_, hS.toKeep⟩
      have hw : wantK p.kind = [false, true, false, false, false] := by rw [hk2]; rfl
      have hm : mayP p = (nodeB p.to && mayT p.t) := by
        unfold mayP
        rw [if_neg hk1, if_pos hk2]
      first
        | (refine (chk_no (.inr ?_)).symm; rw [hw]; unfold shapeB; simp_all; done)
        | (refine (chk_no (.inl ?_)).symm; rw [hm]; simp_all; done)
        | (refine (chk_yes ?_ ?_).symm; (· rw [hm]; simp_all; done); (· rw [hw]; unfold shapeB; simp_all; done)))
  by_cases hk3 : p.kind = 3
  · repeat'(first|(apply kB;(iterate 2 exact rfl);intro b1)|(apply Go.Hb.kK;(iterate 4 exact rfl);intro bs)|refine kv' ?_|apply jJ|refine jE' ?_|refine jp' ?_|(apply jc;kernel_rfl)|refine kg' ?_|refine kG' ?_|refine kB' fun _=>?_|refine kA' fun _=>?_|refine kK' fun _=>?_|refine kU' ?_|(apply kq; (· exact rfl); (· intro w1 h1; first | exact CallsTo.q (p57 p A w1) h1 | exact CallsTo.q (show CallsTo Tryz.prog 35 [p.d.val A.da A.dc] w1 _ from p58 p.d A.da A.dc w1 (hR.old h1).hd hR.hdz (by have := hR.hdm; omega) hR.hdb) h1 | exact CallsTo.q (p59 p.to w1) h1 | exact CallsTo.q (show CallsTo Tryz.prog 37 [p.t.val A.ta A.tc] w1 _ from p60 p.t A.ta A.tc w1 (hR.old h1).ht) h1 | exact CallsTo.q (p59 p.j1 w1) h1 | exact CallsTo.q (q61 p.j2 w1 hI.2) h1 | exact CallsTo.q (q23 p.j2 p.j1 w1) h1 | exact CallsTo.q (p62 (some ⟨bs, 0, none⟩) 1 [p.j3] w1 (h1.rd_of_blk (by (repeat (first | exact mH _ _ | apply mT)))) (by simp)) h1 | exact CallsTo.q (show CallsTo Tryz.prog 41 [p.c.val A.ca A.cc, .int .i64 p.to] w1 _ from p63 p.c p.to A.ca A.cc w1 (hR.old h1).hc hI.1) h1 | exact CallsTo.q (p64 p.b1 p.b2 w1) h1 | exact CallsTo.q (p59 p.b3 w1) h1))|(apply LR.ev; (· exact Ev.shape_ne (a := dataS p.d) (b := tokS p.t) (c := joinS p) (d := comS p.c) (e := beaS p) rfl rfl); (· exact rfl))|((first|refine kR' ?_ ?_|refine kQ' ?_ ?_);all_goals(intro hc;try simp only[hcs]at hc;try(exfalso;first|contradiction|omega))))
    all_goals (
      (apply ret1; (· exact rfl); intro w' hS)
      refine ⟨congrArg (Value.int .i64) ?_, hS.toKeep⟩
      have hw : wantK p.kind = [false, false, true, false, false] := by rw [hk3]; rfl
      have hm : mayP p = (decide (p.to = 0) && nodeB p.j1 && crewOk p.j2 && hasC p.j2 p.j1 && [p.j3].all numB) := by
        unfold mayP
        rw [if_neg hk1, if_neg hk2, if_pos hk3]
      first
        | (refine (chk_no (.inr ?_)).symm; rw [hw]; unfold shapeB; simp_all; done)
        | (refine (chk_no (.inl ?_)).symm; rw [hm]; simp_all; done)
        | (refine (chk_yes ?_ ?_).symm; (· rw [hm]; simp_all; done); (· rw [hw]; unfold shapeB; simp_all; done)))
  by_cases hk4 : p.kind = 4
  · repeat'(first|(apply kB;(iterate 2 exact rfl);intro b1)|(apply Go.Hb.kK;(iterate 4 exact rfl);intro bs)|refine kv' ?_|apply jJ|refine jE' ?_|refine jp' ?_|(apply jc;kernel_rfl)|refine kg' ?_|refine kG' ?_|refine kB' fun _=>?_|refine kA' fun _=>?_|refine kK' fun _=>?_|refine kU' ?_|(apply kq; (· exact rfl); (· intro w1 h1; first | exact CallsTo.q (p57 p A w1) h1 | exact CallsTo.q (show CallsTo Tryz.prog 35 [p.d.val A.da A.dc] w1 _ from p58 p.d A.da A.dc w1 (hR.old h1).hd hR.hdz (by have := hR.hdm; omega) hR.hdb) h1 | exact CallsTo.q (p59 p.to w1) h1 | exact CallsTo.q (show CallsTo Tryz.prog 37 [p.t.val A.ta A.tc] w1 _ from p60 p.t A.ta A.tc w1 (hR.old h1).ht) h1 | exact CallsTo.q (p59 p.j1 w1) h1 | exact CallsTo.q (q61 p.j2 w1 hI.2) h1 | exact CallsTo.q (q23 p.j2 p.j1 w1) h1 | exact CallsTo.q (p62 (some ⟨bs, 0, none⟩) 1 [p.j3] w1 (h1.rd_of_blk (by (repeat (first | exact mH _ _ | apply mT)))) (by simp)) h1 | exact CallsTo.q (show CallsTo Tryz.prog 41 [p.c.val A.ca A.cc, .int .i64 p.to] w1 _ from p63 p.c p.to A.ca A.cc w1 (hR.old h1).hc hI.1) h1 | exact CallsTo.q (p64 p.b1 p.b2 w1) h1 | exact CallsTo.q (p59 p.b3 w1) h1))|(apply LR.ev; (· exact Ev.shape_ne (a := dataS p.d) (b := tokS p.t) (c := joinS p) (d := comS p.c) (e := beaS p) rfl rfl); (· exact rfl))|((first|refine kR' ?_ ?_|refine kQ' ?_ ?_);all_goals(intro hc;try simp only[hcs]at hc;try(exfalso;first|contradiction|omega))))
    all_goals (
      (apply ret1; (· exact rfl); intro w' hS)
      refine ⟨congrArg (Value.int .i64) ?_, hS.toKeep⟩
      have hw : wantK p.kind = [false, false, false, true, false] := by rw [hk4]; rfl
      have hm : mayP p = (mayCm p.c p.to) := by
        unfold mayP
        rw [if_neg hk1, if_neg hk2, if_neg hk3, if_pos hk4]
      first
        | (refine (chk_no (.inr ?_)).symm; rw [hw]; unfold shapeB; simp_all; done)
        | (refine (chk_no (.inl ?_)).symm; rw [hm]; simp_all; done)
        | (refine (chk_yes ?_ ?_).symm; (· rw [hm]; simp_all; done); (· rw [hw]; unfold shapeB; simp_all; done)))
  by_cases hk5 : p.kind = 5
  · repeat'(first|(apply kB;(iterate 2 exact rfl);intro b1)|(apply Go.Hb.kK;(iterate 4 exact rfl);intro bs)|refine kv' ?_|apply jJ|refine jE' ?_|refine jp' ?_|(apply jc;kernel_rfl)|refine kg' ?_|refine kG' ?_|refine kB' fun _=>?_|refine kA' fun _=>?_|refine kK' fun _=>?_|refine kU' ?_|(apply kq; (· exact rfl); (· intro w1 h1; first | exact CallsTo.q (p57 p A w1) h1 | exact CallsTo.q (show CallsTo Tryz.prog 35 [p.d.val A.da A.dc] w1 _ from p58 p.d A.da A.dc w1 (hR.old h1).hd hR.hdz (by have := hR.hdm; omega) hR.hdb) h1 | exact CallsTo.q (p59 p.to w1) h1 | exact CallsTo.q (show CallsTo Tryz.prog 37 [p.t.val A.ta A.tc] w1 _ from p60 p.t A.ta A.tc w1 (hR.old h1).ht) h1 | exact CallsTo.q (p59 p.j1 w1) h1 | exact CallsTo.q (q61 p.j2 w1 hI.2) h1 | exact CallsTo.q (q23 p.j2 p.j1 w1) h1 | exact CallsTo.q (p62 (some ⟨bs, 0, none⟩) 1 [p.j3] w1 (h1.rd_of_blk (by (repeat (first | exact mH _ _ | apply mT)))) (by simp)) h1 | exact CallsTo.q (show CallsTo Tryz.prog 41 [p.c.val A.ca A.cc, .int .i64 p.to] w1 _ from p63 p.c p.to A.ca A.cc w1 (hR.old h1).hc hI.1) h1 | exact CallsTo.q (p64 p.b1 p.b2 w1) h1 | exact CallsTo.q (p59 p.b3 w1) h1))|(apply LR.ev; (· exact Ev.shape_ne (a := dataS p.d) (b := tokS p.t) (c := joinS p) (d := comS p.c) (e := beaS p) rfl rfl); (· exact rfl))|((first|refine kR' ?_ ?_|refine kQ' ?_ ?_);all_goals(intro hc;try simp only[hcs]at hc;try(exfalso;first|contradiction|omega))))
    all_goals (
      (apply ret1; (· exact rfl); intro w' hS)
      refine ⟨congrArg (Value.int .i64) ?_, hS.toKeep⟩
      have hw : wantK p.kind = [false, false, false, false, true] := by rw [hk5]; rfl
      have hm : mayP p = (decide (p.to = 0) && liveR p.b1 p.b2 && nodeB p.b3) := by
        unfold mayP
        rw [if_neg hk1, if_neg hk2, if_neg hk3, if_neg hk4, if_pos hk5]
      first
        | (refine (chk_no (.inr ?_)).symm; rw [hw]; unfold shapeB; simp_all; done)
        | (refine (chk_no (.inl ?_)).symm; rw [hm]; simp_all; done)
        | (refine (chk_yes ?_ ?_).symm; (· rw [hm]; simp_all; done); (· rw [hw]; unfold shapeB; simp_all; done)))
  have hm : mayP p = false := by
    unfold mayP
    rw [if_neg hk1, if_neg hk2, if_neg hk3, if_neg hk4, if_neg hk5]
  repeat'(first|(apply kB;(iterate 2 exact rfl);intro b1)|refine kv' ?_|apply jJ|refine jE' ?_|refine jp' ?_|(apply jc;kernel_rfl)|refine kg' ?_|refine kG' ?_|refine kB' fun _=>?_|refine kA' fun _=>?_|refine kK' fun _=>?_|refine kU' ?_|(apply kq; (· exact rfl); (· intro w1 h1; exact CallsTo.q (p57 p A w1) h1))|((first|refine kR' ?_ ?_|refine kQ' ?_ ?_);all_goals(intro hc;try simp only[hcs]at hc;try(exfalso;first|contradiction|omega))))
  all_goals (
    (apply ret1; (· exact rfl); intro w' hS)
    exact ⟨congrArg (Value.int .i64) (chk_no (.inl hm)).symm, hS.toKeep⟩)
end Go.Proofs.YtkolmkdbjagfcaaGreat

namespace Go.Proofs.YtkolmkdbjagfcaaGreat
open Go.Hb
attribute [local irreducible] LR CW At Ev thn blk finK noG again CallsTo DW QL dnext TW DP
set_option linter.unusedSimpArgs false
set_option linter.unusedVariables false
set_option maxRecDepth 100000

abbrev codB (bc : Nat) (pw pr : Option Addr) (e : Int) : Asrt := .own bc (.cells [.pointer pw, .pointer pr, .int .i64 e].toArray 67 (0, 0))
def wC (bc bw : Nat) (a : Option Addr) (c : Nat) (l : List Int) : Asrt := both (codB bc (some ⟨bw, 0, none⟩) none 0) (wrA 112 [.bool true] bw a c l)
def rC (bc br : Nat) (a : Option Addr) (c : Nat) (l : List Int) (e : Int) : Asrt := both (codB bc none (some ⟨br, 0, none⟩) e) (rrA 142 [.bool true] br a c l)
theorem wC_dep (bc bw : Nat) (a : Option Addr) (c : Nat) (l : List Int) : (wC bc bw a c l).dep := both_dep (Asrt.dep_own _ _) (wrA_dep _ _ _ _)
theorem rC_dep (bc br : Nat) (a : Option Addr) (c : Nat) (l : List Int) (e : Int) : (rC bc br a c l e).dep := both_dep (Asrt.dep_own _ _) (rrA_dep _ _ _ _ _ _)
/-- Places of numbers, and what they hold. -/
structure PV where
  b : Nat
  o : Nat
  v : Int
def PV.ptr (q : PV) : List Value := [.pointer (some ⟨q.b, q.o, none⟩)]
theorem PV.ptr_len (q : PV) : q.ptr.length = 1 := rfl
def pvA (qs : List PV) : Asrt := .rd (fun k => ∃ q ∈ qs, k = q.b) (fun w => ∀ q ∈ qs, w.cell? ⟨q.b, q.o, none⟩ = some (.int .i64 q.v))
theorem pvA_dep (qs : List PV) : (pvA qs).dep := by
  intro w w' hk h q hq
  rw [World.cell?_of_block (hk q.b ⟨q, hq, rfl⟩)]
  exact h q hq
theorem pv_live {qs : List PV} {w : World} (h : (pvA qs).holds w) : ∀ q ∈ qs, q.b < w.heap.size := by
  intro q hq
  have h1 := h q hq
  unfold World.cell? at h1
  cases hx : w.heap[q.b]? with
  | none => simp [hx] at h1
  | some o => exact (Array.getElem?_eq_some_iff.1 hx).1
set_option maxHeartbeats 4000000 in
theorem p87w (bc bw : Nat) (a : Option Addr) (c : Nat) (l : List Int) (bl : Nat) (qs : List PV) (w : World) (h : (wC bc bw a c l).holds w) (hp : Rd w (some ⟨bl, 0, none⟩) (qs.flatMap PV.ptr)) (hv : (pvA qs).holds w)
    (hd : ∀ q ∈ qs, ¬ (wC bc bw a c l).foot q.b) (hb : ¬ (wC bc bw a c l).foot bl) (hok : ∀ q ∈ qs, okN q.v) (hm : l.length ≤ 1000000) (hn : qs.length ≤ 100) :
    CallsTo Tryz.prog 74 [.pointer (some ⟨bc, 0, none⟩), .slice (some ⟨bl, 0, none⟩) qs.length qs.length] w fun v w' => ∃ a' c', v = .tuple #[] ∧ Step (wC bc bw a c l) (wC bc bw a' c' (l ++ encs (qs.map PV.v))) w w' := by
  have hS0 : St w (wC bc bw a c l).foot [wC bc bw a c l, pvA qs, rdA (some ⟨bl, 0, none⟩) (qs.flatMap PV.ptr)] w := by
    have h1 := St.one h (both_live h) (wC_dep _ _ _ _ _)
    have h2 := h1.addRd hp (fun k hk => by obtain ⟨_, _, e, rfl⟩ := hk; cases e; exact hb)
    have h3 := h2.old hv (fun k hk => by obtain ⟨q, hq, rfl⟩ := hk; exact ⟨pv_live hv q hq, hd q hq⟩) (pvA_dep qs)
    have h4 : St w (wC bc bw a c l).foot [pvA qs, rdA (some ⟨bl, 0, none⟩) (qs.flatMap PV.ptr), wC bc bw a c l] w := h3
    exact front h4 2 rfl rfl
  generalize hF : (wC bc bw a c l).foot = F at hS0
  refine go_in (n := 49) (hS0.part (Asrt.dep_own _ _) (wrA_dep _ _ _ _)) Tryz.func74 rfl rfl ?_
  repeat'(first|refine kv' ?_|apply jJ|refine jE' ?_|refine jp' ?_|(apply jc;kernel_rfl)|refine kg' ?_|refine kG' ?_|refine kB' fun _=>?_|refine kA' fun _=>?_|refine kK' fun _=>?_|refine kU' ?_|((first|refine kR' ?_ ?_|refine kQ' ?_ ?_);all_goals(intro hc;try simp only[hcs]at hc;try(exfalso;first|contradiction|omega))))
  apply CW.loop [5, 8, 9, 10, 11, 12, 13, 14, 15, 16, 17, 18, 19, 20, 21, 22, 23, 24, 25, 26, 27, 28, 29, 30, 31, 32, 33, 34, 35, 36, 37, 38, 39, 40, 41, 42, 43, 44, 45, 46, 47, 48] (fun s : Nat × Option Addr × Nat => s.1 ≤ qs.length) (fun s => [(8, Value.int .i64 (s.1 : Int))])
    (fun s => St w F [codB bc (some ⟨bw, 0, none⟩) none 0, wrA 112 [.bool true] bw s.2.1 s.2.2 (l ++ encs ((qs.take s.1).map PV.v)), pvA qs, rdA (some ⟨bl, 0, none⟩) (qs.flatMap PV.ptr)]) (fun s => qs.length - s.1)
  · exact fun w' hw' => ⟨(0, a, c), by simp, ⟨rfl, trivial⟩, hw'.cast (by simp [encs])⟩
  rintro ⟨i, a1, c1⟩ g hi
  simp only at hi ⊢
  have hlen := encs_len ((qs.take i).map PV.v)
  have hlen2 : ((qs.take i).map PV.v).length ≤ 100 := by rw [List.length_map, List.length_take]; omega
  by_cases hlt : i < qs.length
  · have hx := hok _ (List.getElem_mem hlt)
    have e1 := putE_ok hx
    have e2 := putL_ok hx
    have hcell : ∀ w', St w F [codB bc (some ⟨bw, 0, none⟩) none 0, pvA qs, rdA (some ⟨bl, 0, none⟩) (qs.flatMap PV.ptr)] w' → w'.cell? ⟨qs[i].b, qs[i].o, none⟩ = some (.int .i64 qs[i].v) := fun w' hw' => (hw'.holds (pvA qs) (by (repeat (first | exact mH _ _ | apply mT)))) _ (List.getElem_mem hlt)
    repeat'(first|(apply CW.reg_sink 11 (St w F [codB bc (some ⟨bw, 0, none⟩) none 0, pvA qs, rdA (some ⟨bl, 0, none⟩) (qs.flatMap PV.ptr)]); (· exact rfl); (· decide +kernel))|refine kv' ?_|apply jJ|refine jE' ?_|refine jp' ?_|(apply jc;kernel_rfl)|refine kg' ?_|refine kG' ?_|refine kB' fun _=>?_|refine kA' fun _=>?_|refine kK' fun _=>?_|refine kU' ?_|(apply idxX;(iterate 2 exact rfl);(iterate 2(first|omega|(dsimp only;omega)));exact rfl)|(apply LR.ev; (· apply Ev.load (v := .pointer (some ⟨qs[i].b, qs[i].o, none⟩)); (· exact rfl); (· exact fun w' hw' => row_cell PV.ptr_len (hw'.rd_of (by (repeat (first | exact mH _ _ | apply mT)))) hlt 0 rfl (by omega))); (· exact rfl))|((first|refine kR' ?_ ?_|refine kQ' ?_ ?_);all_goals(intro hc;try simp only[hcs]at hc;try(exfalso;first|contradiction|omega))))
    all_goals (
      apply DW.quiet [0, 1, 2, 3, 4, 5, 6, 7]
      · decide +kernel
      · first | exact fun _ h => h | exact fun _ h => St.sub h (by repeat (first | exact List.Sublist.refl _ | apply List.Sublist.cons_cons | apply List.Sublist.cons))
      repeat'(first|refine yv' ?_|(apply QL.ev; (· exact rfl); (· apply Ev.load (v := .int .i64 qs[i].v); (· exact rfl); (· exact hcell)); (· exact rfl))|refine uv' ?_|refine un' ?_|(refine us' ?_ ?_;all_goals(intro hc;try simp only[hcs]at hc;try(exfalso;first|contradiction|omega)))|apply QL.nil)
      all_goals (show DW _ _ _ _ _ _ _ _))
    all_goals (
      apply DW.loud 8
      · exact rfl
      · decide +kernel
      repeat'(first|refine kg' ?_|refine kG' ?_|apply kM|refine kv' ?_|refine kK' fun _=>?_|refine kU' ?_|refine kB' fun _=>?_|refine kA' fun _=>?_|(apply LR.call; (· exact rfl); (intro w1 h1; refine CallsTo.mono (show CallsTo Tryz.prog 105 [.pointer (some ⟨bw, 0, none⟩), .int .i64 qs[i].v] w1 _ from c87 bw a1 c1 _ qs[i].v w1 (h1.holds (wrA 112 [.bool true] bw a1 c1 (l ++ encs ((qs.take i).map PV.v))) (by (repeat (first | exact mH _ _ | apply mT)))) (by simp only [List.length_append]; omega)) ?_; rintro v w2 ⟨a2, c2, rfl, st⟩; refine LR.back (St.did h1 (by (repeat (first | exact sH _ _ _ | apply sT))) rfl st (wrA_dep _ _ _ _)) ?_; clear st h1; rw [e1, e2])))
      all_goals (refine At.stage_same (fun _ h => St.sub h (by repeat (first | exact List.Sublist.refl _ | apply List.Sublist.cons_cons | apply List.Sublist.cons))) ?_))
    all_goals (
      apply DW.quiet [9, 10]
      · decide +kernel
      · first | exact fun _ h => h | exact fun _ h => St.sub h (by repeat (first | exact List.Sublist.refl _ | apply List.Sublist.cons_cons | apply List.Sublist.cons))
      repeat'(first|refine yv' ?_|(apply QL.ev; (· exact rfl); (· apply Ev.load (v := .int .i64 qs[i].v); (· exact rfl); (· exact hcell)); (· exact rfl))|refine uv' ?_|refine un' ?_|(refine us' ?_ ?_;all_goals(intro hc;try simp only[hcs]at hc;try(exfalso;first|contradiction|omega)))|apply QL.nil)
      all_goals (show DW _ _ _ _ _ _ _ _))
    all_goals (apply DW.done; (· decide +kernel))
    all_goals apply At.sink
    repeat'(first|refine kv' ?_|apply jJ|refine jE' ?_|refine jp' ?_|(apply jc;kernel_rfl)|refine kg' ?_|refine kG' ?_|refine kB' fun _=>?_|refine kA' fun _=>?_|refine kK' fun _=>?_|refine kU' ?_|(apply addX;(iterate 2 exact rfl);(iterate 2(first|omega|(dsimp only;omega)));exact rfl)|((first|refine kR' ?_ ?_|refine kQ' ?_ ?_);all_goals(intro hc;try simp only[hcs]at hc;try(exfalso;first|contradiction|omega))))
    refine At.again (i + 1, a2, c2) (by show i + 1 ≤ _; omega) ?_ ⟨rfl, trivial⟩ (fun w' hw' => ?_) (by show qs.length - (i + 1) < qs.length - i; omega)
    · (repeat (first | exact Out.refl _ _ | exact Out.mix | (apply Out.upd; (· exact rfl)) | (apply Out.updL; (· exact rfl)) | (apply Out.mixs; (· exact rfl))))
    · have e3 : (qs.take (i + 1)).map PV.v = (qs.take i).map PV.v ++ [qs[i].v] := by
        rw [List.take_add_one, List.getElem?_eq_getElem hlt, List.map_append]
        rfl
      have e4 : l ++ encs ((qs.take (i + 1)).map PV.v) = l ++ encs ((qs.take i).map PV.v) ++ enc qs[i].v.toNat := by
        rw [e3]
        unfold encs
        rw [List.flatMap_append, List.append_assoc]
        simp
      simp only
      rw [e4]
      exact hw'
  · have hie : i = qs.length := by omega
    subst hie
    rw [List.take_length]
    repeat'(first|refine kv' ?_|apply jJ|refine jE' ?_|refine jp' ?_|(apply jc;kernel_rfl)|refine kg' ?_|refine kG' ?_|refine kB' fun _=>?_|refine kA' fun _=>?_|refine kK' fun _=>?_|refine kU' ?_|((first|refine kR' ?_ ?_|refine kQ' ?_ ?_);all_goals(intro hc;try simp only[hcs]at hc;try(exfalso;first|contradiction|omega))))
    apply end0
    · exact rfl
    intro w' hS
    subst hF
    exact ⟨a1, c1, rfl, ((hS.sub (L' := [codB bc (some ⟨bw, 0, none⟩) none 0, wrA 112 [.bool true] bw a1 c1 (l ++ encs (qs.map PV.v))]) (by (repeat (first | exact List.Sublist.refl _ | apply List.Sublist.cons_cons | apply List.Sublist.cons)))).join rfl rfl).step rfl⟩
/-! ### read -/
abbrev RS := List Int × Int
def getS (s : RS) : Int × RS := if s.2 ≠ 0 then (0, s) else (((dec s.1).1 : Int), (s.1.drop (dec s.1).2.1, (dec s.1).2.2))
def rdN : List Nat → List Value → RS → List Value × RS
  | [], cs, s => (cs, s)
  | o :: r, cs, s => if s.2 ≠ 0 then (cs, s) else rdN r (cs.set o (.int .i64 (getS s).1)) (getS s).2
def rX (bc br : Nat) (a : Option Addr) (c : Nat) (s : RS) (b : Nat) (cs : List Value) (E : Nat) : Asrt := both (rC bc br a c s.1 s.2) (.own b (.cells cs.toArray E (0, 0)))
theorem rX_dep (bc br : Nat) (a : Option Addr) (c : Nat) (s : RS) (b : Nat) (cs : List Value) (E : Nat) : (rX bc br a c s b cs E).dep := both_dep (rC_dep _ _ _ _ _ _) (Asrt.dep_own _ _)
def offP (b : Nat) (o : Nat) : List Value := [.pointer (some ⟨b, o, none⟩)]
theorem offP_len (b o : Nat) : (offP b o).length = 1 := rfl
theorem getS_ok {s : RS} (h : s.2 = 0) : getS s = (((dec s.1).1 : Int), (s.1.drop (dec s.1).2.1, (dec s.1).2.2)) := by unfold getS; rw [if_neg (by simp [h])]
theorem byt_drop {l : List Int} (h : Byt l) (n : Nat) : Byt (l.drop n) := fun x hx => h x (List.mem_of_mem_drop hx)
structure Rst where
  i : Nat
  a : Option Addr
  c : Nat
  s : RS
  cs : List Value
set_option maxHeartbeats 4000000 in
theorem p87r (bc br : Nat) (a : Option Addr) (c : Nat) (s : RS) (b : Nat) (cs : List Value) (E : Nat) (bl : Nat) (os : List Nat) (w : World) (h : (rX bc br a c s b cs E).holds w) (hp : Rd w (some ⟨bl, 0, none⟩) (os.flatMap (offP b)))
    (hb : ¬ (rX bc br a c s b cs E).foot bl) (hos : ∀ o ∈ os, o < cs.length) (hB : Byt s.1) (hm : s.1.length ≤ 281474976710656) (hn : os.length ≤ 1000) :
    CallsTo Tryz.prog 74 [.pointer (some ⟨bc, 0, none⟩), .slice (some ⟨bl, 0, none⟩) os.length os.length] w fun v w' => ∃ a' c', v = .tuple #[] ∧ Step (rX bc br a c s b cs E) (rX bc br a' c' (rdN os cs s).2 b (rdN os cs s).1 E) w w' := by
  have hS0 : St w (rX bc br a c s b cs E).foot [rX bc br a c s b cs E, rdA (some ⟨bl, 0, none⟩) (os.flatMap (offP b))] w := by
    have h1 := St.one h (both_live h) (rX_dep _ _ _ _ _ _ _ _)
    exact front (h1.addRd hp (fun k hk => by obtain ⟨_, _, e, rfl⟩ := hk; cases e; exact hb)) 1 rfl rfl
  generalize hF : (rX bc br a c s b cs E).foot = F at hS0
  refine go_in (n := 49) ((hS0.part (rC_dep _ _ _ _ _ _) (Asrt.dep_own _ _)).part (Asrt.dep_own _ _) (rrA_dep _ _ _ _ _ _)) Tryz.func74 rfl rfl ?_
  have fin_ : ∀ {w' : World} {a' : Option Addr} {c' : Nat} {s' : RS} {cs' : List Value} {R : List Asrt}, St w F (codB bc none (some ⟨br, 0, none⟩) s'.2 :: rrA 142 [.bool true] br a' c' s'.1 :: .own b (.cells cs'.toArray E (0, 0)) :: R) w' → Step (rX bc br a c s b cs E) (rX bc br a' c' s' b cs' E) w w' := fun hS => by
    subst hF
    exact St.step (R := _) (St.join (x := rC bc br _ _ _ _) (St.join hS rfl rfl) rfl rfl) rfl
  repeat'(first|refine kv' ?_|apply jJ|refine jE' ?_|refine jp' ?_|(apply jc;kernel_rfl)|refine kg' ?_|refine kG' ?_|refine kB' fun _=>?_|refine kA' fun _=>?_|refine kK' fun _=>?_|refine kU' ?_|((first|refine kR' ?_ ?_|refine kQ' ?_ ?_);all_goals(intro hc;try simp only[hcs]at hc;try(exfalso;first|contradiction|omega))))
  apply CW.loop [5, 8, 9, 10, 11, 12, 13, 14, 15, 16, 17, 18, 19, 20, 21, 22, 23, 24, 25, 26, 27, 28, 29, 30, 31, 32, 33, 34, 35, 36, 37, 38, 39, 40, 41, 42, 43, 44, 45, 46, 47, 48] (fun t : Rst => t.i ≤ os.length ∧ rdN os cs s = rdN (os.drop t.i) t.cs t.s ∧ t.cs.length = cs.length ∧ Byt t.s.1 ∧ t.s.1.length ≤ 281474976710656) (fun t => [(8, Value.int .i64 (t.i : Int))])
    (fun t => St w F [codB bc none (some ⟨br, 0, none⟩) t.s.2, rrA 142 [.bool true] br t.a t.c t.s.1, .own b (.cells t.cs.toArray E (0, 0)), rdA (some ⟨bl, 0, none⟩) (os.flatMap (offP b))]) (fun t => os.length - t.i)
  · exact fun w' hw' => ⟨⟨0, a, c, s, cs⟩, ⟨by simp, rfl, rfl, hB, hm⟩, ⟨rfl, trivial⟩, hw'⟩
  rintro ⟨i, a1, c1, s1, cs1⟩ g ⟨hi, heq, hcl, hB1, hm1⟩
  simp only at hi heq hcl hB1 hm1 ⊢
  by_cases hlt : i < os.length
  · have hio := hos _ (List.getElem_mem hlt)
    rw [List.drop_eq_getElem_cons hlt, rdN] at heq
    by_cases he : s1.2 = 0
    · rw [if_neg (by simp [he])] at heq
      have hg := getS_ok he
      obtain ⟨o, ho⟩ : ∃ o, os[i] = o := ⟨_, rfl⟩
      have hptr : ∀ w', Rd w' (some ⟨bl, 0, none⟩) (os.flatMap (offP b)) → w'.cell? ⟨bl, 0 + (i : Int).toNat * 1, none⟩ = some (.pointer (some ⟨b, o, none⟩)) := fun w' hw' => by
        refine row_cell (offP_len b) hw' hlt 0 ?_ (by omega)
        rw [ho]; rfl
      rw [ho] at hio heq
      repeat'(first|refine kv' ?_|apply jJ|refine jE' ?_|refine jp' ?_|(apply jc;kernel_rfl)|refine kg' ?_|refine kG' ?_|refine kB' fun _=>?_|refine kA' fun _=>?_|refine kK' fun _=>?_|refine kU' ?_|(apply idxX;(iterate 2 exact rfl);(iterate 2(first|omega|(dsimp only;omega)));exact rfl)|(apply LR.ev; (· apply Ev.load (v := .pointer (some ⟨b, o, none⟩)); (· exact rfl); (· exact fun w' hw' => hptr w' (hw'.rd_of (by (repeat (first | exact mH _ _ | apply mT)))))); (· exact rfl))|(apply LR.call; (· exact rfl); (intro w1 h1; refine CallsTo.mono (show CallsTo Tryz.prog 106 [.pointer (some ⟨br, 0, none⟩)] w1 _ from c73 br a1 c1 s1.1 w1 (h1.holds (rrA 142 [.bool true] br a1 c1 s1.1) (by (repeat (first | exact mH _ _ | apply mT)))) hB1 hm1) ?_; rintro v w2 ⟨a2, c2, rfl, st⟩; refine LR.back (St.did h1 (by (repeat (first | exact sH _ _ _ | apply sT))) rfl st (rrA_dep _ _ _ _ _ _)) ?_; clear st h1))|((first|refine kR' ?_ ?_|refine kQ' ?_ ?_);all_goals(intro hc;try simp only[hcs]at hc;try(exfalso;first|contradiction|omega))))
      apply kS
      · exact rfl
      · exact rfl
      · (repeat (first | exact sH _ _ _ | apply sT))
      · have h1 : Nat.ble (o + 1) cs1.length = true := by simp; omega
        show (([Value.int .i64 ((dec s1.1).1 : Int)].all Value.oneCell' && Nat.beq 1 1 && Nat.ble (o + 1) cs1.length) = true)
        rw [h1]; rfl
      repeat'(first|refine kv' ?_|apply jJ|refine jE' ?_|refine jp' ?_|(apply jc;kernel_rfl)|refine kg' ?_|refine kG' ?_|refine kB' fun _=>?_|refine kA' fun _=>?_|refine kK' fun _=>?_|refine kU' ?_|(apply addX;(iterate 2 exact rfl);(iterate 2(first|omega|(dsimp only;omega)));exact rfl)|((first|refine kR' ?_ ?_|refine kQ' ?_ ?_);all_goals(intro hc;try simp only[hcs]at hc;try(exfalso;first|contradiction|omega))))
      rw [hg] at heq
      refine At.again (⟨i + 1, a2, c2, (s1.1.drop (dec s1.1).2.1, (dec s1.1).2.2), cs1.set o (.int .i64 ((dec s1.1).1 : Int))⟩ : Rst) ⟨by simp only; omega, heq, by simp only [List.length_set]; exact hcl, byt_drop hB1 _, by simp only [List.length_drop]; omega⟩ ?_ ⟨rfl, trivial⟩ (fun w' hw' => ?_) (by simp only; omega)
      · (repeat (first | exact Out.refl _ _ | exact Out.mix | (apply Out.upd; (· exact rfl)) | (apply Out.updL; (· exact rfl)) | (apply Out.mixs; (· exact rfl))))
      · have e : splice cs1 o [Value.int .i64 ((dec s1.1).1 : Int)] = cs1.set o (.int .i64 ((dec s1.1).1 : Int)) := by
          rw [List.set_eq_take_append_cons_drop, if_pos (by omega)]
          unfold splice
          simp
        rw [e] at hw'
        exact hw'
    · rw [if_pos he] at heq
      have hptr : ∀ w', Rd w' (some ⟨bl, 0, none⟩) (os.flatMap (offP b)) → w'.cell? ⟨bl, 0 + (i : Int).toNat * 1, none⟩ = some (.pointer (some ⟨b, os[i], none⟩)) := fun w' hw' => row_cell (offP_len b) hw' hlt 0 rfl (by omega)
      repeat'(first|refine kv' ?_|apply jJ|refine jE' ?_|refine jp' ?_|(apply jc;kernel_rfl)|refine kg' ?_|refine kG' ?_|refine kB' fun _=>?_|refine kA' fun _=>?_|refine kK' fun _=>?_|refine kU' ?_|(apply idxX;(iterate 2 exact rfl);(iterate 2(first|omega|(dsimp only;omega)));exact rfl)|(apply LR.ev; (· apply Ev.load (v := .pointer (some ⟨b, os[i], none⟩)); (· exact rfl); (· exact fun w' hw' => hptr w' (hw'.rd_of (by (repeat (first | exact mH _ _ | apply mT)))))); (· exact rfl))|((first|refine kR' ?_ ?_|refine kQ' ?_ ?_);all_goals(intro hc;try simp only[hcs]at hc;try(exfalso;first|contradiction|omega))))
      apply ret0
      · exact rfl
      intro w' hS
      rw [heq]
      exact ⟨a1, c1, rfl, fin_ hS⟩
  · have hie : i = os.length := by omega
    subst hie
    rw [List.drop_length] at heq
    repeat'(first|refine kv' ?_|apply jJ|refine jE' ?_|refine jp' ?_|(apply jc;kernel_rfl)|refine kg' ?_|refine kG' ?_|refine kB' fun _=>?_|refine kA' fun _=>?_|refine kK' fun _=>?_|refine kU' ?_|((first|refine kR' ?_ ?_|refine kQ' ?_ ?_);all_goals(intro hc;try simp only[hcs]at hc;try(exfalso;first|contradiction|omega))))
    apply end0
    · exact rfl
    intro w' hS
    rw [heq]
    exact ⟨a1, c1, rfl, fin_ hS⟩
end Go.Proofs.YtkolmkdbjagfcaaGreat

namespace Go.Proofs.YtkolmkdbjagfcaaGreat
open Go.Hb
attribute [local irreducible] LR CW At Ev thn blk finK noG again CallsTo DW QL dnext TW DP
set_option linter.unusedSimpArgs false
set_option linter.unusedVariables false
set_option maxRecDepth 100000

theorem St.apart2 {w0 w : World} {F : Nat → Prop} {L : List Asrt} {x y : Asrt} (h : St w0 F L w) (hs : [x, y].Sublist L ∨ [y, x].Sublist L) (he : (x.excl || y.excl) = true) : ∀ k, x.foot k → ¬ y.foot k := by
  rcases hs with hs | hs
  · exact (List.pairwise_cons.1 (h.dis.sublist hs)).1 y (by simp) he
  · intro k hx hy
    exact (List.pairwise_cons.1 (h.dis.sublist hs)).1 x (by simp) (by rw [Bool.or_comm]; exact he) k hy hx
theorem pv_sub {qs qs' : List PV} {w : World} (hs : ∀ q ∈ qs', q ∈ qs) (h : (pvA qs).holds w) : (pvA qs').holds w := fun q hq => h q (hs q hq)
theorem wC_start {bc bw : Nat} {a : Option Addr} {c : Nat} {l : List Int} {qs : List PV} {w : World} (h : (wC bc bw a c l).holds w) (hv : (pvA qs).holds w) (hd : ∀ q ∈ qs, ¬ (wC bc bw a c l).foot q.b) : St w (wC bc bw a c l).foot [wC bc bw a c l, pvA qs] w := by
  have h1 := St.one h (both_live h) (wC_dep _ _ _ _ _)
  have h3 : St w (wC bc bw a c l).foot [pvA qs, wC bc bw a c l] w := h1.old hv (fun k hk => by obtain ⟨q, hq, rfl⟩ := hk; exact ⟨pv_live hv q hq, hd q hq⟩) (pvA_dep qs)
  exact front h3 1 rfl rfl
theorem pv_hd {w0 w : World} {F : Nat → Prop} {L : List Asrt} {bc bw : Nat} {a : Option Addr} {c : Nat} {l : List Int} {qs qs' : List PV} (h : St w0 F L w) (hs : [wC bc bw a c l, pvA qs].Sublist L ∨ [pvA qs, wC bc bw a c l].Sublist L) (hq : ∀ q ∈ qs', q ∈ qs) : ∀ q ∈ qs', ¬ (wC bc bw a c l).foot q.b :=
  fun q hm hf => St.apart2 h hs rfl q.b hf ⟨q, hq q hm, rfl⟩
set_option maxHeartbeats 2000000 in
theorem p89w (bc bw : Nat) (a : Option Addr) (c : Nat) (l : List Int) (b o : Nat) (s r : Int) (w : World) (h : (wC bc bw a c l).holds w) (hv : (pvA [⟨b, o, s⟩, ⟨b, o + 1, r⟩]).holds w) (hd : ∀ q ∈ [(⟨b, o, s⟩ : PV), ⟨b, o + 1, r⟩], ¬ (wC bc bw a c l).foot q.b) (hs : okN s) (hr : okN r) (hm : l.length ≤ 1000000) :
    CallsTo Tryz.prog 76 [.pointer (some ⟨bc, 0, none⟩), .pointer (some ⟨b, o, none⟩)] w fun v w' => ∃ a' c', v = .tuple #[] ∧ Step (wC bc bw a c l) (wC bc bw a' c' (l ++ encs [s, r])) w w' := by
  have hS0 := wC_start h hv hd
  generalize hF : (wC bc bw a c l).foot = F at hS0
  refine go_in (n := 13) hS0 Tryz.func76 rfl rfl ?_
  repeat'(first|(apply CW.reg_held (St w F [pvA [⟨b, o, s⟩, ⟨b, o + 1, r⟩]]))|refine kv' ?_|apply jJ|refine jE' ?_|refine jp' ?_|(apply jc;kernel_rfl)|refine kg' ?_|refine kG' ?_|refine kB' fun _=>?_|refine kA' fun _=>?_|refine kK' fun _=>?_|refine kU' ?_|((first|refine kR' ?_ ?_|refine kQ' ?_ ?_);all_goals(intro hc;try simp only[hcs]at hc;try(exfalso;first|contradiction|omega))))
  all_goals (
    apply DW.quiet [0, 1, 2, 3, 4, 5, 6]
    · decide +kernel
    · first | exact fun _ h => h | exact fun _ h => St.sub h (by repeat (first | exact List.Sublist.refl _ | apply List.Sublist.cons_cons | apply List.Sublist.cons))
    repeat'(first|refine yv' ?_|refine uv' ?_|refine un' ?_|(refine us' ?_ ?_;all_goals(intro hc;try simp only[hcs]at hc;try(exfalso;first|contradiction|omega)))|apply QL.nil)
    all_goals (show DW _ _ _ _ _ _ _ _))
  all_goals (
    apply DW.loud 7
    · exact rfl
    · decide +kernel
    repeat'(first|(apply Go.Hb.kK;(iterate 4 exact rfl);intro bs)|refine kg' ?_|refine kG' ?_|apply kM|refine kv' ?_|refine kK' fun _=>?_|refine kU' ?_|refine kB' fun _=>?_|refine kA' fun _=>?_|(apply LR.call; (· exact rfl); (intro w1 h1; refine (p87w bc bw a c l bs [⟨b, o, s⟩, ⟨b, o + 1, r⟩] w1 (h1.holds _ (by (repeat (first | exact mH _ _ | apply mT)))) (h1.rd_of_blk (by (repeat (first | exact mH _ _ | apply mT)))) (h1.holds (pvA [⟨b, o, s⟩, ⟨b, o + 1, r⟩]) (by (repeat (first | exact mH _ _ | apply mT)))) (by rw [hF] at hd ⊢; exact hd) (St.apart2 (x := .own bs (.cells _ 114 (0, 0))) h1 (.inl (by (repeat (first | exact List.Sublist.refl _ | apply List.Sublist.cons_cons | apply List.Sublist.cons)))) rfl bs rfl) (fun q hq => by simp only [List.mem_cons, List.not_mem_nil, or_false] at hq; rcases hq with rfl | rfl; (· exact hs); (· exact hr)) hm (by simp)).mono ?_; rintro v w2 ⟨a2, c2, rfl, st⟩; refine LR.back (St.did h1 (by (repeat (first | exact sH _ _ _ | apply sT))) rfl st (wC_dep _ _ _ _ _)) ?_; clear st h1)))
    all_goals (refine At.stage_same (fun _ h => St.sub h (by repeat (first | exact List.Sublist.refl _ | apply List.Sublist.cons_cons | apply List.Sublist.cons))) ?_))
  all_goals (
    apply DW.loud 8
    · exact rfl
    · decide +kernel
    repeat'(first|(apply Go.Hb.kK;(iterate 4 exact rfl);intro bs)|refine kg' ?_|refine kG' ?_|apply kM|refine kv' ?_|refine kK' fun _=>?_|refine kU' ?_|refine kB' fun _=>?_|refine kA' fun _=>?_|(apply LR.call; (· exact rfl); (intro w1 h1; refine (p87w bc bw a c l bs [⟨b, o, s⟩, ⟨b, o + 1, r⟩] w1 (h1.holds _ (by (repeat (first | exact mH _ _ | apply mT)))) (h1.rd_of_blk (by (repeat (first | exact mH _ _ | apply mT)))) (h1.holds (pvA [⟨b, o, s⟩, ⟨b, o + 1, r⟩]) (by (repeat (first | exact mH _ _ | apply mT)))) (by rw [hF] at hd ⊢; exact hd) (St.apart2 (x := .own bs (.cells _ 114 (0, 0))) h1 (.inl (by (repeat (first | exact List.Sublist.refl _ | apply List.Sublist.cons_cons | apply List.Sublist.cons)))) rfl bs rfl) (fun q hq => by simp only [List.mem_cons, List.not_mem_nil, or_false] at hq; rcases hq with rfl | rfl; (· exact hs); (· exact hr)) hm (by simp)).mono ?_; rintro v w2 ⟨a2, c2, rfl, st⟩; refine LR.back (St.did h1 (by (repeat (first | exact sH _ _ _ | apply sT))) rfl st (wC_dep _ _ _ _ _)) ?_; clear st h1)))
    all_goals (refine At.stage_same (fun _ h => St.sub h (by repeat (first | exact List.Sublist.refl _ | apply List.Sublist.cons_cons | apply List.Sublist.cons))) ?_))
  all_goals (first | (apply DW.done_thn; (· decide +kernel)) | (apply DW.done; (· decide +kernel)))
  repeat'(first|refine kv' ?_|apply jJ|refine jE' ?_|refine jp' ?_|(apply jc;kernel_rfl)|refine kg' ?_|refine kG' ?_|refine kB' fun _=>?_|refine kA' fun _=>?_|refine kK' fun _=>?_|refine kU' ?_|((first|refine kR' ?_ ?_|refine kQ' ?_ ?_);all_goals(intro hc;try simp only[hcs]at hc;try(exfalso;first|contradiction|omega))))
  apply end0
  · exact rfl
  intro w' hS
  subst hF
  exact ⟨a2, c2, rfl, (hS.sub (L' := [wC bc bw a2 c2 (l ++ encs [s, r])]) (by (repeat (first | exact List.Sublist.refl _ | apply List.Sublist.cons_cons | apply List.Sublist.cons)))).step rfl⟩
set_option maxHeartbeats 2000000 in
theorem p92w (bc bw : Nat) (a : Option Addr) (c : Nat) (l : List Int) (b o : Nat) (s : Int) (w : World) (h : (wC bc bw a c l).holds w) (hv : (pvA [⟨b, o, s⟩]).holds w) (hd : ∀ q ∈ [(⟨b, o, s⟩ : PV)], ¬ (wC bc bw a c l).foot q.b) (hs : okN s) (hm : l.length ≤ 1000000) :
    CallsTo Tryz.prog 79 [.pointer (some ⟨bc, 0, none⟩), .pointer (some ⟨b, o, none⟩)] w fun v w' => ∃ a' c', v = .tuple #[] ∧ Step (wC bc bw a c l) (wC bc bw a' c' (l ++ encs [s])) w w' := by
  have hS0 := wC_start h hv hd
  generalize hF : (wC bc bw a c l).foot = F at hS0
  refine go_in (n := 8) hS0 Tryz.func79 rfl rfl ?_
  repeat'(first|(apply Go.Hb.kK;(iterate 4 exact rfl);intro bs)|refine kv' ?_|apply jJ|refine jE' ?_|refine jp' ?_|(apply jc;kernel_rfl)|refine kg' ?_|refine kG' ?_|refine kB' fun _=>?_|refine kA' fun _=>?_|refine kK' fun _=>?_|refine kU' ?_|(apply LR.call; (· exact rfl); (intro w1 h1; refine (p87w bc bw a c l bs [⟨b, o, s⟩] w1 (h1.holds _ (by (repeat (first | exact mH _ _ | apply mT)))) (h1.rd_of_blk (by (repeat (first | exact mH _ _ | apply mT)))) (h1.holds (pvA [⟨b, o, s⟩]) (by (repeat (first | exact mH _ _ | apply mT)))) (by rw [hF] at hd ⊢; exact hd) (St.apart2 (x := .own bs (.cells _ 114 (0, 0))) h1 (.inl (by (repeat (first | exact List.Sublist.refl _ | apply List.Sublist.cons_cons | apply List.Sublist.cons)))) rfl bs rfl) (fun q hq => by simp only [List.mem_cons, List.not_mem_nil, or_false] at hq; rcases hq with rfl; exact hs) hm (by simp)).mono ?_; rintro v w2 ⟨a2, c2, rfl, st⟩; refine LR.back (St.did h1 (by (repeat (first | exact sH _ _ _ | apply sT))) rfl st (wC_dep _ _ _ _ _)) ?_; clear st h1))|((first|refine kR' ?_ ?_|refine kQ' ?_ ?_);all_goals(intro hc;try simp only[hcs]at hc;try(exfalso;first|contradiction|omega))))
  apply end0
  · exact rfl
  intro w' hS
  subst hF
  exact ⟨a2, c2, rfl, (hS.sub (L' := [wC bc bw a2 c2 (l ++ encs [s])]) (by (repeat (first | exact List.Sublist.refl _ | apply List.Sublist.cons_cons | apply List.Sublist.cons)))).step rfl⟩
def entQ (b o : Nat) (e : Ent) : List PV := [⟨b, o, e.node⟩, ⟨b, o + 1, e.o1⟩, ⟨b, o + 2, e.o2⟩, ⟨b, o + 3, e.aru⟩, ⟨b, o + 4, e.high⟩, ⟨b, o + 5, e.clock⟩]
theorem encs_app (x y : List Int) : encs (x ++ y) = encs x ++ encs y := by unfold encs; rw [List.flatMap_append]
set_option maxHeartbeats 4000000 in
theorem p94w (bc bw : Nat) (a : Option Addr) (c : Nat) (l : List Int) (b o : Nat) (e : Ent) (w : World) (h : (wC bc bw a c l).holds w) (hv : (pvA (entQ b o e)).holds w) (hd : ∀ q ∈ entQ b o e, ¬ (wC bc bw a c l).foot q.b) (hok : ∀ x ∈ e.nums, okN x) (hm : l.length ≤ 900000) :
    CallsTo Tryz.prog 81 [.pointer (some ⟨bc, 0, none⟩), .pointer (some ⟨b, o, none⟩)] w fun v w' => ∃ a' c', v = .tuple #[] ∧ Step (wC bc bw a c l) (wC bc bw a' c' (l ++ encs e.nums)) w w' := by
  have hS0 := wC_start h hv hd
  generalize hF : (wC bc bw a c l).foot = F at hS0
  have hl1 := encs_len [e.node]
  have hl2 := encs_len [e.o1, e.o2]
  simp only [List.length_cons, List.length_nil] at hl1 hl2
  have ok : ∀ x, x ∈ e.nums → okN x := hok
  have q1 : ∀ q ∈ [(⟨b, o, e.node⟩ : PV)], q ∈ entQ b o e := fun q hq => by simp only [List.mem_cons, List.not_mem_nil, or_false] at hq; subst hq; simp [entQ]
  have q2 : ∀ q ∈ [(⟨b, o + 1, e.o1⟩ : PV), ⟨b, o + 1 + 1, e.o2⟩], q ∈ entQ b o e := fun q hq => by simp only [List.mem_cons, List.not_mem_nil, or_false] at hq; rcases hq with rfl | rfl <;> simp [entQ]
  have q3 : ∀ q ∈ [(⟨b, o + 3, e.aru⟩ : PV), ⟨b, o + 4, e.high⟩, ⟨b, o + 5, e.clock⟩], q ∈ entQ b o e := fun q hq => by simp only [List.mem_cons, List.not_mem_nil, or_false] at hq; rcases hq with rfl | rfl | rfl <;> simp [entQ]
  refine go_in (n := 27) hS0 Tryz.func81 rfl rfl ?_
  repeat'(first|(apply CW.reg_held (St w F [pvA (entQ b o e)]))|(apply Go.Hb.kK;(iterate 4 exact rfl);intro bs)|refine kv' ?_|apply jJ|refine jE' ?_|refine jp' ?_|(apply jc;kernel_rfl)|refine kg' ?_|refine kG' ?_|refine kB' fun _=>?_|refine kA' fun _=>?_|refine kK' fun _=>?_|refine kU' ?_|(apply LR.call; (· exact rfl); (intro w1 h1; first | (refine (p87w bc bw a c l bs [⟨b, o, e.node⟩] w1 (h1.holds _ (by (repeat (first | exact mH _ _ | apply mT)))) (h1.rd_of_blk (by (repeat (first | exact mH _ _ | apply mT)))) (pv_sub q1 (h1.holds (pvA (entQ b o e)) (by (repeat (first | exact mH _ _ | apply mT))))) (pv_hd h1 (.inl (by (repeat (first | exact List.Sublist.refl _ | apply List.Sublist.cons_cons | apply List.Sublist.cons)))) q1) (St.apart2 (x := .own bs (.cells _ 114 (0, 0))) h1 (.inl (by (repeat (first | exact List.Sublist.refl _ | apply List.Sublist.cons_cons | apply List.Sublist.cons)))) rfl bs rfl) (fun q hq => by simp only [List.mem_cons, List.not_mem_nil, or_false] at hq; subst hq; exact ok _ (by simp [Ent.nums])) (by omega) (by simp)).mono ?_; rintro v w2 ⟨a2, c2, rfl, st⟩; refine LR.back (St.did h1 (by (repeat (first | exact sH _ _ _ | apply sT))) rfl st (wC_dep _ _ _ _ _)) ?_; clear st h1) | (refine (p89w bc bw a2 c2 (l ++ encs [e.node]) b (o + 1) e.o1 e.o2 w1 (h1.holds _ (by (repeat (first | exact mH _ _ | apply mT)))) (pv_sub q2 (h1.holds (pvA (entQ b o e)) (by (repeat (first | exact mH _ _ | apply mT))))) (pv_hd h1 (.inl (by (repeat (first | exact List.Sublist.refl _ | apply List.Sublist.cons_cons | apply List.Sublist.cons)))) q2) (ok _ (by simp [Ent.nums])) (ok _ (by simp [Ent.nums])) (by simp only [List.length_append]; omega)).mono ?_; rintro v w2 ⟨a3, c3, rfl, st⟩; refine LR.back (St.did h1 (by (repeat (first | exact sH _ _ _ | apply sT))) rfl st (wC_dep _ _ _ _ _)) ?_; clear st h1)))|((first|refine kR' ?_ ?_|refine kQ' ?_ ?_);all_goals(intro hc;try simp only[hcs]at hc;try(exfalso;first|contradiction|omega))))
  all_goals (
    apply DW.quiet [0, 1, 2, 3, 4, 5, 6, 7, 8, 9]
    · decide +kernel
    · first | exact fun _ h => h | exact fun _ h => St.sub h (by repeat (first | exact List.Sublist.refl _ | apply List.Sublist.cons_cons | apply List.Sublist.cons))
    repeat'(first|refine yv' ?_|refine uv' ?_|refine un' ?_|(refine us' ?_ ?_;all_goals(intro hc;try simp only[hcs]at hc;try(exfalso;first|contradiction|omega)))|apply QL.nil)
    all_goals (show DW _ _ _ _ _ _ _ _))
  all_goals (
    apply DW.loud 10
    · exact rfl
    · decide +kernel
    repeat'(first|(apply Go.Hb.kK;(iterate 4 exact rfl);intro bs2)|refine kg' ?_|refine kG' ?_|apply kM|refine kv' ?_|refine kK' fun _=>?_|refine kU' ?_|refine kB' fun _=>?_|refine kA' fun _=>?_|(apply LR.call; (· exact rfl); (intro w1 h1; refine (p87w bc bw a3 c3 (l ++ encs [e.node] ++ encs [e.o1, e.o2]) bs2 [⟨b, o + 3, e.aru⟩, ⟨b, o + 4, e.high⟩, ⟨b, o + 5, e.clock⟩] w1 (h1.holds _ (by (repeat (first | exact mH _ _ | apply mT)))) (h1.rd_of_blk (by (repeat (first | exact mH _ _ | apply mT)))) (pv_sub q3 (h1.holds (pvA (entQ b o e)) (by (repeat (first | exact mH _ _ | apply mT))))) (pv_hd h1 (.inl (by (repeat (first | exact List.Sublist.refl _ | apply List.Sublist.cons_cons | apply List.Sublist.cons)))) q3) (St.apart2 (x := .own bs2 (.cells _ 114 (0, 0))) h1 (.inl (by (repeat (first | exact List.Sublist.refl _ | apply List.Sublist.cons_cons | apply List.Sublist.cons)))) rfl bs2 rfl) (fun q hq => by simp only [List.mem_cons, List.not_mem_nil, or_false] at hq; rcases hq with rfl | rfl | rfl <;> exact ok _ (by simp [Ent.nums])) (by simp only [List.length_append]; omega) (by simp)).mono ?_; rintro v w2 ⟨a4, c4, rfl, st⟩; refine LR.back (St.did h1 (by (repeat (first | exact sH _ _ _ | apply sT))) rfl st (wC_dep _ _ _ _ _)) ?_; clear st h1)))
    all_goals (refine At.stage_same (fun _ h => St.sub h (by repeat (first | exact List.Sublist.refl _ | apply List.Sublist.cons_cons | apply List.Sublist.cons))) ?_))
  all_goals (
    apply DW.loud 11
    · exact rfl
    · decide +kernel
    repeat'(first|(apply Go.Hb.kK;(iterate 4 exact rfl);intro bs2)|refine kg' ?_|refine kG' ?_|apply kM|refine kv' ?_|refine kK' fun _=>?_|refine kU' ?_|refine kB' fun _=>?_|refine kA' fun _=>?_|(apply LR.call; (· exact rfl); (intro w1 h1; refine (p87w bc bw a3 c3 (l ++ encs [e.node] ++ encs [e.o1, e.o2]) bs2 [⟨b, o + 3, e.aru⟩, ⟨b, o + 4, e.high⟩, ⟨b, o + 5, e.clock⟩] w1 (h1.holds _ (by (repeat (first | exact mH _ _ | apply mT)))) (h1.rd_of_blk (by (repeat (first | exact mH _ _ | apply mT)))) (pv_sub q3 (h1.holds (pvA (entQ b o e)) (by (repeat (first | exact mH _ _ | apply mT))))) (pv_hd h1 (.inl (by (repeat (first | exact List.Sublist.refl _ | apply List.Sublist.cons_cons | apply List.Sublist.cons)))) q3) (St.apart2 (x := .own bs2 (.cells _ 114 (0, 0))) h1 (.inl (by (repeat (first | exact List.Sublist.refl _ | apply List.Sublist.cons_cons | apply List.Sublist.cons)))) rfl bs2 rfl) (fun q hq => by simp only [List.mem_cons, List.not_mem_nil, or_false] at hq; rcases hq with rfl | rfl | rfl <;> exact ok _ (by simp [Ent.nums])) (by simp only [List.length_append]; omega) (by simp)).mono ?_; rintro v w2 ⟨a4, c4, rfl, st⟩; refine LR.back (St.did h1 (by (repeat (first | exact sH _ _ _ | apply sT))) rfl st (wC_dep _ _ _ _ _)) ?_; clear st h1)))
    all_goals (refine At.stage_same (fun _ h => St.sub h (by repeat (first | exact List.Sublist.refl _ | apply List.Sublist.cons_cons | apply List.Sublist.cons))) ?_))
  all_goals (first | (apply DW.done_thn; (· decide +kernel)) | (apply DW.done; (· decide +kernel)))
  repeat'(first|refine kv' ?_|apply jJ|refine jE' ?_|refine jp' ?_|(apply jc;kernel_rfl)|refine kg' ?_|refine kG' ?_|refine kB' fun _=>?_|refine kA' fun _=>?_|refine kK' fun _=>?_|refine kU' ?_|((first|refine kR' ?_ ?_|refine kQ' ?_ ?_);all_goals(intro hc;try simp only[hcs]at hc;try(exfalso;first|contradiction|omega))))
  apply end0
  · exact rfl
  intro w' hS
  subst hF
  have e9 : l ++ encs e.nums = l ++ encs [e.node] ++ encs [e.o1, e.o2] ++ encs [e.aru, e.high, e.clock] := by
    rw [show e.nums = [e.node] ++ [e.o1, e.o2] ++ [e.aru, e.high, e.clock] from rfl, encs_app, encs_app, ← List.append_assoc, ← List.append_assoc]
  rw [e9]
  exact ⟨a4, c4, rfl, (hS.sub (L' := [wC bc bw a4 c4 (l ++ encs [e.node] ++ encs [e.o1, e.o2] ++ encs [e.aru, e.high, e.clock])]) (by (repeat (first | exact List.Sublist.refl _ | apply List.Sublist.cons_cons | apply List.Sublist.cons)))).step rfl⟩
end Go.Proofs.YtkolmkdbjagfcaaGreat

namespace Go.Proofs.YtkolmkdbjagfcaaGreat
open Go.Hb
attribute [local irreducible] LR CW At Ev thn blk finK noG again CallsTo DW QL dnext TW DP
set_option linter.unusedSimpArgs false
set_option linter.unusedVariables false
set_option maxRecDepth 100000

/-- Cells at a place. -/
def atL (b o : Nat) (cs : List Value) : Asrt := .rd (fun k => k = b) (fun w => ∀ j v, cs[j]? = some v → w.cell? ⟨b, o + j, none⟩ = some v)
theorem atL_of {w : World} {b o : Nat} {l cs rest : List Value} (h : Rd w (some ⟨b, 0, none⟩) l) (e : l.drop o = cs ++ rest) : (atL b o cs).holds w := by
  intro j v hj
  have hlt : j < cs.length := (List.getElem?_eq_some_iff.1 hj).1
  have h1 : l[o + j]? = some v := by rw [← List.getElem?_drop, e, List.getElem?_append_left hlt]; exact hj
  have h2 := h.cell h1
  rwa [Nat.zero_add] at h2
theorem wC_w {bc bw : Nat} {a : Option Addr} {c : Nat} {l : List Int} {w : World} (h : (wC bc bw a c l).holds w) : w.cell? ⟨bc, 0, none⟩ = some (.pointer (some ⟨bw, 0, none⟩)) := cell_own h.1
theorem wC_r {bc bw : Nat} {a : Option Addr} {c : Nat} {l : List Int} {w : World} (h : (wC bc bw a c l).holds w) : w.cell? ⟨bc, 1, none⟩ = some (.pointer none) := cell_own h.1
theorem wC_e {bc bw : Nat} {a : Option Addr} {c : Nat} {l : List Int} {w : World} (h : (wC bc bw a c l).holds w) : w.cell? ⟨bc, 2, none⟩ = some (.int .i64 0) := cell_own h.1
theorem atL_live {b o : Nat} {cs : List Value} {w : World} (h : (atL b o cs).holds w) (hn : cs ≠ []) : b < w.heap.size := by
  cases cs with
  | nil => exact absurd rfl hn
  | cons x r =>
    have h1 := h 0 x rfl
    unfold World.cell? at h1
    cases hx : w.heap[b]? with
    | none => simp [hx] at h1
    | some o => exact (Array.getElem?_eq_some_iff.1 hx).1
theorem atL_dep (b o : Nat) (cs : List Value) : (atL b o cs).dep := by
  intro w w' hk h j v hj
  rw [World.cell?_of_block (hk b rfl)]
  exact h j v hj
theorem wL_start {bc bw : Nat} {a : Option Addr} {c : Nat} {l : List Int} {b o : Nat} {cs xs : List Value} {sa : Option Addr} {w : World} (h : (wC bc bw a c l).holds w) (hp : (atL b o cs).holds w) (hn : cs ≠ []) (hr : Rd w sa xs) (hb : ¬ (wC bc bw a c l).foot b) (hd : ∀ k, rdFoot sa xs k → ¬ (wC bc bw a c l).foot k) :
    St w (wC bc bw a c l).foot [wC bc bw a c l, rdA sa xs, atL b o cs] w := by
  have h1 := St.one h (both_live h) (wC_dep _ _ _ _ _)
  have h2 : St w (wC bc bw a c l).foot [rdA sa xs, wC bc bw a c l] w := h1.addRd hr (fun k hk => hd k hk)
  have h3 : St w (wC bc bw a c l).foot [atL b o cs, rdA sa xs, wC bc bw a c l] w := h2.old hp (fun k hk => by cases hk; exact ⟨atL_live hp hn, hb⟩) (atL_dep _ _ _)
  exact front (front h3 1 rfl rfl) 2 rfl rfl
theorem encs_one (n : Int) : encs [n] = enc n.toNat := by unfold encs; simp
theorem encs_snoc_le (l : List Int) : (encs l).length ≤ l.length * 9 := by have := encs_len l; omega
def ivF (x : Int) : List Value := [.int .i64 x]
theorem ivF_len (x : Int) : (ivF x).length = 1 := rfl
theorem iv_flat : ∀ l : List Int, iv l = l.flatMap ivF
  | [] => rfl
  | x :: r => by rw [List.flatMap_cons, ← iv_flat r]; rfl
theorem rd_rowN {α : Type} {f : α → List Value} {n : Nat} (hf : ∀ x, (f x).length = n) {w : World} {b o : Nat} {l : List α} (h : Rd w (some ⟨b, o, none⟩) (l.flatMap f)) {i : Nat} (hi : i < l.length) : ∀ j v, (f l[i])[j]? = some v → w.cell? ⟨b, o + (i : Int).toNat * n + j, none⟩ = some v := by
  intro j v hj
  exact row_cell hf h hi j hj (by simp)
theorem rows_lenN {α : Type} {f : α → List Int} {n : Nat} (hf : ∀ x, (f x).length = n) : ∀ (l : List α), (l.flatMap f).length = l.length * n
  | [] => by simp
  | x :: r => by rw [List.flatMap_cons, List.length_append, hf, rows_lenN hf r, List.length_cons, Nat.add_mul]; omega
def one1 (x : Int) : List Int := [x]
theorem one1_len (x : Int) : (one1 x).length = 1 := rfl
theorem ent_len (e : Ent) : e.nums.length = 6 := rfl
theorem one1_flat : ∀ l : List Int, l.flatMap one1 = l
  | [] => rfl
  | x :: r => by rw [List.flatMap_cons, one1_flat r]; rfl
set_option maxHeartbeats 8000000 in
theorem p91w (bc bw : Nat) (a : Option Addr) (c : Nat) (l : List Int) (b o : Nat) (sa : Option Addr) (sc : Nat) (xs : List Int) (most : Int) (w : World) (h : (wC bc bw a c l).holds w) (hp : (atL b o [.slice sa xs.length sc]).holds w) (hr : Rd w sa (xs.flatMap ivF))
    (hb : ¬ (wC bc bw a c l).foot b) (hd : ∀ k, rdFoot sa (xs.flatMap ivF) k → ¬ (wC bc bw a c l).foot k) (hok : ∀ x ∈ xs, okN x) (hm : l.length ≤ 500000) (hn : (xs.length : Int) ≤ most) (hmost : most ≤ 100) :
    CallsTo Tryz.prog 78 [.pointer (some ⟨bc, 0, none⟩), .pointer (some ⟨b, o, none⟩), .int .i64 most, .func (.func 79) #[] #[]] w fun v w' => ∃ a' c', v = .tuple #[] ∧ Step (wC bc bw a c l) (wC bc bw a' c' (l ++ enc xs.length ++ encs (xs.flatMap one1))) w w' := by
  have hS0 := wL_start h hp (by simp) hr hb hd
  generalize hF : (wC bc bw a c l).foot = F at hS0
  have hl1 := encs_len [(xs.length : Int)]
  have he1 : encs [(xs.length : Int)] = enc xs.length := by rw [encs_one]; rfl
  simp only [List.length_cons, List.length_nil] at hl1
  rw [he1] at hl1
  have hokn : okN (xs.length : Int) := by unfold okN; omega
  refine go_in (n := 60) hS0 Tryz.func78 rfl rfl ?_
  repeat'(first|(apply kA;exact rfl;intro bn)|(apply Go.Hb.kK;(iterate 4 exact rfl);intro bs)|refine kv' ?_|apply jJ|refine jE' ?_|refine jp' ?_|(apply jc;kernel_rfl)|refine kg' ?_|refine kG' ?_|refine kB' fun _=>?_|refine kA' fun _=>?_|refine kK' fun _=>?_|refine kU' ?_|(apply LR.ev; (· first | (apply Ev.load (v := .int .i64 0); (· exact rfl); (· exact fun w' hw' => wC_e (hw'.holds (wC bc bw _ _ _) (by (repeat (first | exact mH _ _ | apply mT)))))) | (apply Ev.load (v := .pointer (some ⟨bw, 0, none⟩)); (· exact rfl); (· exact fun w' hw' => wC_w (hw'.holds (wC bc bw _ _ _) (by (repeat (first | exact mH _ _ | apply mT)))))) | (apply Ev.load (v := .slice sa xs.length sc); (· exact rfl); (· exact fun w' hw' => (hw'.holds (atL b o [.slice sa xs.length sc]) (by (repeat (first | exact mH _ _ | apply mT)))) 0 _ rfl))); (· exact rfl))|(apply LR.call; (· exact rfl); (intro w1 h1; refine (p87w bc bw a c l bs [⟨bn, 0, (xs.length : Int)⟩] w1 (h1.holds _ (by (repeat (first | exact mH _ _ | apply mT)))) (h1.rd_of_blk (by (repeat (first | exact mH _ _ | apply mT)))) (fun q hq => by simp only [List.mem_cons, List.not_mem_nil, or_false] at hq; subst hq; exact cell_own (h1.holds (.own bn (.cells _ _ (0, 0))) (by (repeat (first | exact mH _ _ | apply mT))))) (fun q hq => by simp only [List.mem_cons, List.not_mem_nil, or_false] at hq; subst hq; exact St.apart2 (x := .own bn (.cells _ 3 (0, 0))) h1 (.inl (by (repeat (first | exact List.Sublist.refl _ | apply List.Sublist.cons_cons | apply List.Sublist.cons)))) rfl bn rfl) (St.apart2 (x := .own bs (.cells _ 114 (0, 0))) h1 (.inl (by (repeat (first | exact List.Sublist.refl _ | apply List.Sublist.cons_cons | apply List.Sublist.cons)))) rfl bs rfl) (fun q hq => by simp only [List.mem_cons, List.not_mem_nil, or_false] at hq; subst hq; exact hokn) (by omega) (by simp)).mono ?_; rintro v w2 ⟨a2, c2, rfl, st⟩; refine LR.back (St.did h1 (by (repeat (first | exact sH _ _ _ | apply sT))) rfl st (wC_dep _ _ _ _ _)) ?_; clear st h1; rw [show l ++ encs ([(⟨bn, 0, (xs.length : Int)⟩ : PV)].map PV.v) = l ++ enc xs.length from congrArg (l ++ ·) he1]))|((first|refine kR' ?_ ?_|refine kQ' ?_ ?_);all_goals(intro hc;try simp only[hcs]at hc;try(exfalso;first|contradiction|omega))))
  apply CW.loop [9, 48, 49, 50, 51, 52, 53, 54, 55, 56, 57, 58, 59] (fun s : Nat × Option Addr × Nat => s.1 ≤ xs.length) (fun s => [(48, Value.int .i64 (s.1 : Int))])
    (fun s => St w F [wC bc bw s.2.1 s.2.2 (l ++ enc xs.length ++ encs ((xs.take s.1).flatMap one1)), rdA sa (xs.flatMap ivF), atL b o [.slice sa xs.length sc]]) (fun s => xs.length - s.1)
  · intro w' hw'
    refine ⟨(0, a2, c2), by simp, ⟨rfl, trivial⟩, ?_⟩
    show St w F [wC bc bw a2 c2 (l ++ enc xs.length ++ encs []), _, _] w'
    have e0 : l ++ enc xs.length ++ encs [] = l ++ enc xs.length := by show _ ++ [] = _; rw [List.append_nil]
    rw [e0]
    exact hw'.sub (by (repeat (first | exact List.Sublist.refl _ | apply List.Sublist.cons_cons | apply List.Sublist.cons)))
  rintro ⟨i, a1, c1⟩ g hi
  simp only at hi ⊢
  by_cases hlt : i < xs.length
  · have hx := hok _ (List.getElem_mem hlt)
    obtain ⟨bg, og, rfl⟩ := hr.form (rows_ne ivF_len (by decide) hlt)
    have hlen : (encs ((xs.take i).flatMap one1)).length ≤ 6 * 100 * 9 := by
      refine Nat.le_trans (encs_snoc_le _) (Nat.mul_le_mul_right _ ?_)
      rw [rows_lenN one1_len, List.length_take]
      omega
    obtain ⟨K, hK⟩ : ∃ K, K = l ++ enc xs.length ++ encs ((xs.take i).flatMap one1) := ⟨_, rfl⟩
    have hKl : K.length ≤ 600000 := by rw [hK]; simp only [List.length_append]; omega
    rw [← hK]
    repeat'(first|refine kv' ?_|apply jJ|refine jE' ?_|refine jp' ?_|(apply jc;kernel_rfl)|refine kg' ?_|refine kG' ?_|refine kB' fun _=>?_|refine kA' fun _=>?_|refine kK' fun _=>?_|refine kU' ?_|(apply idxX;(iterate 2 exact rfl);(iterate 2(first|omega|(dsimp only;omega)));exact rfl)|(apply LR.ev; (· apply Ev.load (v := .slice (some ⟨bg, og, none⟩) xs.length sc); (· exact rfl); (· exact fun w' hw' => (hw'.holds (atL b o [.slice (some ⟨bg, og, none⟩) xs.length sc]) (by (repeat (first | exact mH _ _ | apply mT)))) 0 _ rfl)); (· exact rfl))|(apply LR.call_val (g := 79) (cap := []); (· exact rfl); (· exact rfl); (intro w1 h1; refine CallsTo.mono (show CallsTo Tryz.prog 79 [.pointer (some ⟨bc, 0, none⟩), .pointer (some ⟨bg, og + (i : Int).toNat * 1, none⟩)] w1 _ from p92w bc bw a1 c1 K bg (og + (i : Int).toNat * 1) xs[i] w1 (h1.holds _ (by (repeat (first | exact mH _ _ | apply mT)))) (fun q hq => (by simp only [List.mem_cons, List.not_mem_nil, or_false] at hq; subst hq; exact rd_rowN ivF_len (h1.rd_of (a := some ⟨bg, og, none⟩) (by (repeat (first | exact mH _ _ | apply mT)))) hlt 0 _ rfl)) (fun q hq => by have e : q.b = bg := (by simp only [List.mem_cons, List.not_mem_nil, or_false] at hq; subst hq; rfl); rw [e]; exact fun hf => St.apart2 (x := wC bc bw a1 c1 K) (y := rdA (some ⟨bg, og, none⟩) (xs.flatMap ivF)) h1 (.inl (by (repeat (first | exact List.Sublist.refl _ | apply List.Sublist.cons_cons | apply List.Sublist.cons)))) rfl bg hf ⟨rows_ne ivF_len (by decide) hlt, _, rfl, rfl⟩) hx (by omega)) ?_; rintro v w2 ⟨a3, c3, rfl, st⟩; refine LR.back (St.did h1 (by (repeat (first | exact sH _ _ _ | apply sT))) rfl st (wC_dep _ _ _ _ _)) ?_; clear st h1))|((first|refine kR' ?_ ?_|refine kQ' ?_ ?_);all_goals(intro hc;try simp only[hcs]at hc;try(exfalso;first|contradiction|omega))))
    repeat'(first|refine kv' ?_|apply jJ|refine jE' ?_|refine jp' ?_|(apply jc;kernel_rfl)|refine kg' ?_|refine kG' ?_|refine kB' fun _=>?_|refine kA' fun _=>?_|refine kK' fun _=>?_|refine kU' ?_|(apply addX;(iterate 2 exact rfl);(iterate 2(first|omega|(dsimp only;omega)));exact rfl)|((first|refine kR' ?_ ?_|refine kQ' ?_ ?_);all_goals(intro hc;try simp only[hcs]at hc;try(exfalso;first|contradiction|omega))))
    refine At.again (i + 1, a3, c3) (by show i + 1 ≤ _; omega) ?_ ⟨rfl, trivial⟩ (fun w' hw' => ?_) (by show xs.length - (i + 1) < xs.length - i; omega)
    · (repeat (first | exact Out.refl _ _ | exact Out.mix | (apply Out.upd; (· exact rfl)) | (apply Out.updL; (· exact rfl)) | (apply Out.mixs; (· exact rfl))))
    · have e4 : l ++ enc xs.length ++ encs ((xs.take (i + 1)).flatMap one1) = K ++ encs (one1 xs[i]) := by
        rw [hK, List.take_add_one, List.getElem?_eq_getElem hlt, List.flatMap_append, encs_app, ← List.append_assoc]
        simp
      simp only
      rw [e4]
      exact hw'
  · have hie : i = xs.length := by omega
    subst hie
    rw [List.take_length]
    repeat'(first|refine kv' ?_|apply jJ|refine jE' ?_|refine jp' ?_|(apply jc;kernel_rfl)|refine kg' ?_|refine kG' ?_|refine kB' fun _=>?_|refine kA' fun _=>?_|refine kK' fun _=>?_|refine kU' ?_|((first|refine kR' ?_ ?_|refine kQ' ?_ ?_);all_goals(intro hc;try simp only[hcs]at hc;try(exfalso;first|contradiction|omega))))
    apply end0
    · exact rfl
    intro w' hS
    subst hF
    exact ⟨a1, c1, rfl, (hS.sub (L' := [wC bc bw a1 c1 (l ++ enc xs.length ++ encs (xs.flatMap one1))]) (by (repeat (first | exact List.Sublist.refl _ | apply List.Sublist.cons_cons | apply List.Sublist.cons)))).step rfl⟩
set_option maxHeartbeats 8000000 in
theorem p93w (bc bw : Nat) (a : Option Addr) (c : Nat) (l : List Int) (b o : Nat) (sa : Option Addr) (sc : Nat) (xs : List Ent) (most : Int) (w : World) (h : (wC bc bw a c l).holds w) (hp : (atL b o [.slice sa xs.length sc]).holds w) (hr : Rd w sa (xs.flatMap Ent.cells))
    (hb : ¬ (wC bc bw a c l).foot b) (hd : ∀ k, rdFoot sa (xs.flatMap Ent.cells) k → ¬ (wC bc bw a c l).foot k) (hok : ∀ x ∈ xs, ∀ y ∈ x.nums, okN y) (hm : l.length ≤ 500000) (hn : (xs.length : Int) ≤ most) (hmost : most ≤ 100) :
    CallsTo Tryz.prog 80 [.pointer (some ⟨bc, 0, none⟩), .pointer (some ⟨b, o, none⟩), .int .i64 most, .func (.func 81) #[] #[]] w fun v w' => ∃ a' c', v = .tuple #[] ∧ Step (wC bc bw a c l) (wC bc bw a' c' (l ++ enc xs.length ++ encs (xs.flatMap Ent.nums))) w w' := by
  have hS0 := wL_start h hp (by simp) hr hb hd
  generalize hF : (wC bc bw a c l).foot = F at hS0
  have hl1 := encs_len [(xs.length : Int)]
  have he1 : encs [(xs.length : Int)] = enc xs.length := by rw [encs_one]; rfl
  simp only [List.length_cons, List.length_nil] at hl1
  rw [he1] at hl1
  have hokn : okN (xs.length : Int) := by unfold okN; omega
  refine go_in (n := 60) hS0 Tryz.func80 rfl rfl ?_
  repeat'(first|(apply kA;exact rfl;intro bn)|(apply Go.Hb.kK;(iterate 4 exact rfl);intro bs)|refine kv' ?_|apply jJ|refine jE' ?_|refine jp' ?_|(apply jc;kernel_rfl)|refine kg' ?_|refine kG' ?_|refine kB' fun _=>?_|refine kA' fun _=>?_|refine kK' fun _=>?_|refine kU' ?_|(apply LR.ev; (· first | (apply Ev.load (v := .int .i64 0); (· exact rfl); (· exact fun w' hw' => wC_e (hw'.holds (wC bc bw _ _ _) (by (repeat (first | exact mH _ _ | apply mT)))))) | (apply Ev.load (v := .pointer (some ⟨bw, 0, none⟩)); (· exact rfl); (· exact fun w' hw' => wC_w (hw'.holds (wC bc bw _ _ _) (by (repeat (first | exact mH _ _ | apply mT)))))) | (apply Ev.load (v := .slice sa xs.length sc); (· exact rfl); (· exact fun w' hw' => (hw'.holds (atL b o [.slice sa xs.length sc]) (by (repeat (first | exact mH _ _ | apply mT)))) 0 _ rfl))); (· exact rfl))|(apply LR.call; (· exact rfl); (intro w1 h1; refine (p87w bc bw a c l bs [⟨bn, 0, (xs.length : Int)⟩] w1 (h1.holds _ (by (repeat (first | exact mH _ _ | apply mT)))) (h1.rd_of_blk (by (repeat (first | exact mH _ _ | apply mT)))) (fun q hq => by simp only [List.mem_cons, List.not_mem_nil, or_false] at hq; subst hq; exact cell_own (h1.holds (.own bn (.cells _ _ (0, 0))) (by (repeat (first | exact mH _ _ | apply mT))))) (fun q hq => by simp only [List.mem_cons, List.not_mem_nil, or_false] at hq; subst hq; exact St.apart2 (x := .own bn (.cells _ 3 (0, 0))) h1 (.inl (by (repeat (first | exact List.Sublist.refl _ | apply List.Sublist.cons_cons | apply List.Sublist.cons)))) rfl bn rfl) (St.apart2 (x := .own bs (.cells _ 114 (0, 0))) h1 (.inl (by (repeat (first | exact List.Sublist.refl _ | apply List.Sublist.cons_cons | apply List.Sublist.cons)))) rfl bs rfl) (fun q hq => by simp only [List.mem_cons, List.not_mem_nil, or_false] at hq; subst hq; exact hokn) (by omega) (by simp)).mono ?_; rintro v w2 ⟨a2, c2, rfl, st⟩; refine LR.back (St.did h1 (by (repeat (first | exact sH _ _ _ | apply sT))) rfl st (wC_dep _ _ _ _ _)) ?_; clear st h1; rw [show l ++ encs ([(⟨bn, 0, (xs.length : Int)⟩ : PV)].map PV.v) = l ++ enc xs.length from congrArg (l ++ ·) he1]))|((first|refine kR' ?_ ?_|refine kQ' ?_ ?_);all_goals(intro hc;try simp only[hcs]at hc;try(exfalso;first|contradiction|omega))))
  apply CW.loop [9, 48, 49, 50, 51, 52, 53, 54, 55, 56, 57, 58, 59] (fun s : Nat × Option Addr × Nat => s.1 ≤ xs.length) (fun s => [(48, Value.int .i64 (s.1 : Int))])
    (fun s => St w F [wC bc bw s.2.1 s.2.2 (l ++ enc xs.length ++ encs ((xs.take s.1).flatMap Ent.nums)), rdA sa (xs.flatMap Ent.cells), atL b o [.slice sa xs.length sc]]) (fun s => xs.length - s.1)
  · intro w' hw'
    refine ⟨(0, a2, c2), by simp, ⟨rfl, trivial⟩, ?_⟩
    show St w F [wC bc bw a2 c2 (l ++ enc xs.length ++ encs []), _, _] w'
    have e0 : l ++ enc xs.length ++ encs [] = l ++ enc xs.length := by show _ ++ [] = _; rw [List.append_nil]
    rw [e0]
    exact hw'.sub (by (repeat (first | exact List.Sublist.refl _ | apply List.Sublist.cons_cons | apply List.Sublist.cons)))
  rintro ⟨i, a1, c1⟩ g hi
  simp only at hi ⊢
  by_cases hlt : i < xs.length
  · have hx := hok _ (List.getElem_mem hlt)
    obtain ⟨bg, og, rfl⟩ := hr.form (rows_ne Ent.cells_len (by decide) hlt)
    have hlen : (encs ((xs.take i).flatMap Ent.nums)).length ≤ 6 * 100 * 9 := by
      refine Nat.le_trans (encs_snoc_le _) (Nat.mul_le_mul_right _ ?_)
      rw [rows_lenN ent_len, List.length_take]
      omega
    obtain ⟨K, hK⟩ : ∃ K, K = l ++ enc xs.length ++ encs ((xs.take i).flatMap Ent.nums) := ⟨_, rfl⟩
    have hKl : K.length ≤ 600000 := by rw [hK]; simp only [List.length_append]; omega
    rw [← hK]
    repeat'(first|refine kv' ?_|apply jJ|refine jE' ?_|refine jp' ?_|(apply jc;kernel_rfl)|refine kg' ?_|refine kG' ?_|refine kB' fun _=>?_|refine kA' fun _=>?_|refine kK' fun _=>?_|refine kU' ?_|(apply idxX;(iterate 2 exact rfl);(iterate 2(first|omega|(dsimp only;omega)));exact rfl)|(apply LR.ev; (· apply Ev.load (v := .slice (some ⟨bg, og, none⟩) xs.length sc); (· exact rfl); (· exact fun w' hw' => (hw'.holds (atL b o [.slice (some ⟨bg, og, none⟩) xs.length sc]) (by (repeat (first | exact mH _ _ | apply mT)))) 0 _ rfl)); (· exact rfl))|(apply LR.call_val (g := 81) (cap := []); (· exact rfl); (· exact rfl); (intro w1 h1; refine CallsTo.mono (show CallsTo Tryz.prog 81 [.pointer (some ⟨bc, 0, none⟩), .pointer (some ⟨bg, og + (i : Int).toNat * 6, none⟩)] w1 _ from p94w bc bw a1 c1 K bg (og + (i : Int).toNat * 6) xs[i] w1 (h1.holds _ (by (repeat (first | exact mH _ _ | apply mT)))) (fun q hq => (by have hrr := rd_rowN Ent.cells_len (h1.rd_of (a := some ⟨bg, og, none⟩) (xs := xs.flatMap Ent.cells) (by (repeat (first | exact mH _ _ | apply mT)))) hlt; simp only [entQ, List.mem_cons, List.not_mem_nil, or_false] at hq; rcases hq with rfl | rfl | rfl | rfl | rfl | rfl; (· exact hrr 0 _ rfl); (· exact hrr 1 _ rfl); (· exact hrr 2 _ rfl); (· exact hrr 3 _ rfl); (· exact hrr 4 _ rfl); (· exact hrr 5 _ rfl))) (fun q hq => by have e : q.b = bg := (by simp only [entQ, List.mem_cons, List.not_mem_nil, or_false] at hq; rcases hq with rfl | rfl | rfl | rfl | rfl | rfl <;> rfl); rw [e]; exact fun hf => St.apart2 (x := wC bc bw a1 c1 K) (y := rdA (some ⟨bg, og, none⟩) (xs.flatMap Ent.cells)) h1 (.inl (by (repeat (first | exact List.Sublist.refl _ | apply List.Sublist.cons_cons | apply List.Sublist.cons)))) rfl bg hf ⟨rows_ne Ent.cells_len (by decide) hlt, _, rfl, rfl⟩) hx (by omega)) ?_; rintro v w2 ⟨a3, c3, rfl, st⟩; refine LR.back (St.did h1 (by (repeat (first | exact sH _ _ _ | apply sT))) rfl st (wC_dep _ _ _ _ _)) ?_; clear st h1))|((first|refine kR' ?_ ?_|refine kQ' ?_ ?_);all_goals(intro hc;try simp only[hcs]at hc;try(exfalso;first|contradiction|omega))))
    repeat'(first|refine kv' ?_|apply jJ|refine jE' ?_|refine jp' ?_|(apply jc;kernel_rfl)|refine kg' ?_|refine kG' ?_|refine kB' fun _=>?_|refine kA' fun _=>?_|refine kK' fun _=>?_|refine kU' ?_|(apply addX;(iterate 2 exact rfl);(iterate 2(first|omega|(dsimp only;omega)));exact rfl)|((first|refine kR' ?_ ?_|refine kQ' ?_ ?_);all_goals(intro hc;try simp only[hcs]at hc;try(exfalso;first|contradiction|omega))))
    refine At.again (i + 1, a3, c3) (by show i + 1 ≤ _; omega) ?_ ⟨rfl, trivial⟩ (fun w' hw' => ?_) (by show xs.length - (i + 1) < xs.length - i; omega)
    · (repeat (first | exact Out.refl _ _ | exact Out.mix | (apply Out.upd; (· exact rfl)) | (apply Out.updL; (· exact rfl)) | (apply Out.mixs; (· exact rfl))))
    · have e4 : l ++ enc xs.length ++ encs ((xs.take (i + 1)).flatMap Ent.nums) = K ++ encs (Ent.nums xs[i]) := by
        rw [hK, List.take_add_one, List.getElem?_eq_getElem hlt, List.flatMap_append, encs_app, ← List.append_assoc]
        simp
      simp only
      rw [e4]
      exact hw'
  · have hie : i = xs.length := by omega
    subst hie
    rw [List.take_length]
    repeat'(first|refine kv' ?_|apply jJ|refine jE' ?_|refine jp' ?_|(apply jc;kernel_rfl)|refine kg' ?_|refine kG' ?_|refine kB' fun _=>?_|refine kA' fun _=>?_|refine kK' fun _=>?_|refine kU' ?_|((first|refine kR' ?_ ?_|refine kQ' ?_ ?_);all_goals(intro hc;try simp only[hcs]at hc;try(exfalso;first|contradiction|omega))))
    apply end0
    · exact rfl
    intro w' hS
    subst hF
    exact ⟨a1, c1, rfl, (hS.sub (L' := [wC bc bw a1 c1 (l ++ enc xs.length ++ encs (xs.flatMap Ent.nums))]) (by (repeat (first | exact List.Sublist.refl _ | apply List.Sublist.cons_cons | apply List.Sublist.cons)))).step rfl⟩
end Go.Proofs.YtkolmkdbjagfcaaGreat

namespace Go.Proofs.YtkolmkdbjagfcaaGreat
open Go.Hb
attribute [local irreducible] LR CW At Ev thn blk finK noG again CallsTo DW QL dnext TW DP
set_option linter.unusedSimpArgs false
set_option linter.unusedVariables false
set_option maxRecDepth 100000

theorem atL_agg {b o : Nat} {cs : List Value} {w : World} (h : (atL b o cs).holds w) : ∀ j v, cs[j]? = some v → w.cell? ((⟨b, o, none⟩ : Addr).add j) = some v := by
  intro j v hj
  rw [addr_add]
  exact h j v hj
set_option maxHeartbeats 4000000 in
theorem p90w (bc bw : Nat) (a : Option Addr) (c : Nat) (l : List Int) (b o : Nat) (ma : Option Addr) (mc : Nat) (m : Msg) (w : World) (h : (wC bc bw a c l).holds w) (hp : (atL b o (m.cells ma mc)).holds w) (hr : Rd w ma (bv m.body))
    (hb : ¬ (wC bc bw a c l).foot b) (hd : ∀ k, rdFoot ma (bv m.body) k → ¬ (wC bc bw a c l).foot k) (hz : ma = none → mc = 0) (hB : Byt m.body) (hck : check m = 0) (hm : l.length ≤ 800000) :
    CallsTo Tryz.prog 77 [.pointer (some ⟨bc, 0, none⟩), .pointer (some ⟨b, o, none⟩)] w fun v w' => ∃ a' c', v = .tuple #[] ∧ Step (wC bc bw a c l) (wC bc bw a' c' (l ++ enc (bytesM m).length ++ bytesM m)) w w' := by
  have hS0 := wL_start h hp (by simp [Msg.cells]) hr hb hd
  generalize hF : (wC bc bw a c l).foot = F at hS0
  have hlb := bytesM_len m
  have hbl := (check_ok hck).1
  have hpk : pack m = (bytesM m, 0) := by unfold pack; rw [if_neg (by simp [hck])]
  refine go_in (n := 65) (hS0.part (Asrt.dep_own _ _) (wrA_dep _ _ _ _)) Tryz.func77 rfl rfl ?_
  repeat'(first|refine kv' ?_|apply jJ|refine jE' ?_|refine jp' ?_|(apply jc;kernel_rfl)|refine kg' ?_|refine kG' ?_|refine kB' fun _=>?_|refine kA' fun _=>?_|refine kK' fun _=>?_|refine kU' ?_|(apply LR.ev; (· apply Ev.load_agg_at (cs := m.cells ma mc); (· exact rfl); (· exact rfl); (· exact fun w' hw' => atL_agg (hw'.holds (atL b o (m.cells ma mc)) (by (repeat (first | exact mH _ _ | apply mT)))))); (· exact rfl))|(apply LR.call; (· exact rfl); (intro w1 h1; refine CallsTo.mono (show CallsTo Tryz.prog 107 [m.val ma mc] w1 (fun v w' => ∃ a2 c2, v = .tuple [.slice a2 (bytesM m).length c2, .int .i64 0].toArray ∧ NewSl w1 w' (.slice a2 (bytesM m).length c2) 5 1 (bytesM m).length (bv (bytesM m))) from by (have hq := c15 m ma mc w1 (h1.rd_of (a := ma) (xs := bv m.body) (by (repeat (first | exact mH _ _ | apply mT)))) hz (by omega) hB); rw [hpk] at hq; exact hq) ?_; rintro v w2 ⟨a3, c3, rfl, hn⟩; refine LR.back (h1.newSl hn) ?_; clear hn h1))|(apply LR.call; (· exact rfl); (intro w1 h1; refine CallsTo.mono (show CallsTo Tryz.prog 108 [.pointer (some ⟨bw, 0, none⟩), .slice a3 (bytesM m).length c3] w1 _ from c55 bw a a3 c c3 l (bytesM m) w1 (h1.holds (wrA 112 [.bool true] bw a c l) (by (repeat (first | exact mH _ _ | apply mT)))) (h1.rd_of_own (by (repeat (first | exact mH _ _ | apply mT)))) (fun e => (ownsRow_some (h1.g0) e).2) (fun k hk hf => by obtain ⟨_, ad, e, rfl⟩ := hk; subst e; exact St.apart2 (y := wrA 112 [.bool true] bw a c l) h1 (.inl (by (repeat (first | exact List.Sublist.refl _ | apply List.Sublist.cons_cons | apply List.Sublist.cons)))) rfl ad.block (x := osl (.slice (some ad) (bytesM m).length c3) 5 1 (bytesM m).length (bv (bytesM m))) rfl hf) (by omega) (by omega)) ?_; rintro v w2 ⟨a4, c4, rfl, st⟩; refine LR.back (St.did h1 (by (repeat (first | exact sH _ _ _ | apply sT))) rfl st (wrA_dep _ _ _ _)) ?_; clear st h1))|((first|refine kR' ?_ ?_|refine kQ' ?_ ?_);all_goals(intro hc;try simp only[hcs]at hc;try(exfalso;first|contradiction|omega))))
  apply ret0
  · exact rfl
  intro w' hS
  subst hF
  exact ⟨a4, c4, rfl, ((hS.sub (L' := [codB bc (some ⟨bw, 0, none⟩) none 0, wrA 112 [.bool true] bw a4 c4 (l ++ enc (bytesM m).length ++ bytesM m)]) (by (repeat (first | exact List.Sublist.refl _ | apply List.Sublist.cons_cons | apply List.Sublist.cons)))).join rfl rfl).step rfl⟩
end Go.Proofs.YtkolmkdbjagfcaaGreat

namespace Go.Proofs.YtkolmkdbjagfcaaGreat
open Go.Hb
attribute [local irreducible] LR CW At Ev thn blk finK noG again CallsTo DW QL dnext TW DP
set_option linter.unusedSimpArgs false
set_option linter.unusedVariables false
set_option maxRecDepth 100000

/-- The numbers of a packet's own kind that stand ahead of its message or list. -/
def numsP (p : Pkt) : List Int :=
  if p.kind = 1 then [p.d.rseq, p.d.rrep, p.d.seq, p.d.sender, p.d.stamp]
  else if p.kind = 2 then [p.t.r1, p.t.r2, p.t.hop, p.t.seq, p.t.aru, p.t.low, p.t.stamp, p.t.idle]
  else if p.kind = 3 then [p.j1, p.j2, p.j3]
  else if p.kind = 4 then [p.c.r1, p.c.r2, p.c.mem, p.c.hop]
  else [p.b1, p.b2, p.b3]
def tailP (p : Pkt) : List Int :=
  if p.kind = 1 then enc (bytesM p.d.msg).length ++ bytesM p.d.msg
  else if p.kind = 2 then enc p.t.ask.length ++ encs p.t.ask
  else if p.kind = 4 then enc p.c.ents.length ++ encs (p.c.ents.flatMap Ent.nums)
  else []
def bodyP (p : Pkt) : List Int := encs [p.kind, p.to] ++ encs (numsP p) ++ tailP p
theorem live_ok {s r : Int} (h : liveR s r = true) : okN s ∧ okN r ∧ 1 ≤ s ∧ 1 ≤ r ∧ r ≤ 8 := by
  unfold liveR at h
  have h := of_decide_eq_true h
  unfold okN
  have h1 := h.1
  have h2 := h.2
  unfold ringE ringB numB at h2
  split at h2
  · rename_i h3
    simp only [Bool.or_eq_true, Bool.and_eq_true, decide_eq_true_eq] at h3
    omega
  · cases h2
theorem node_ok {n : Int} (h : nodeB n = true) : 1 ≤ n ∧ n ≤ 8 := by simpa [nodeB] using h
theorem num_okN {n : Int} (h : numB n = true) : okN n := by unfold okN; simpa [numB] using h
theorem crewL_bd {c x : Int} (h : x ∈ crewL c) : 0 ≤ x ∧ x ≤ 8 := by
  rw [← crewN_9] at h
  unfold crewN at h
  have h1 := (List.mem_filter.1 h).1
  obtain ⟨i, hi, rfl⟩ := List.mem_map.1 h1
  have := List.mem_range.1 hi
  omega
theorem crewL_getD (c : Int) (i : Nat) : 0 ≤ (crewL c).getD i 0 ∧ (crewL c).getD i 0 ≤ 8 := by
  rw [List.getD_eq_getElem?_getD]
  cases h : (crewL c)[i]? with
  | none => simp
  | some x => exact crewL_bd (List.mem_of_getElem? h)
theorem crewL_len (c : Int) : (crewL c).length ≤ 8 := by
  unfold crewL crewTo
  refine Nat.le_trans (List.length_filter_le _ _) ?_
  simp
theorem askOk_all {seq : Int} : ∀ {last : Int} {l : List Int}, askOk seq last l = true → 0 ≤ last → ∀ x ∈ l, 0 ≤ x ∧ x ≤ seq
  | last, [], _, _, x, hx => by simp at hx
  | last, y :: r, h, hl, x, hx => by
    unfold askOk at h
    simp only [Bool.and_eq_true, decide_eq_true_eq] at h
    rcases List.mem_cons.1 hx with rfl | hx
    · omega
    · exact askOk_all h.2 (by omega) x hx
theorem entsOk_all : ∀ {es : List Ent} {l : List Int}, entsOk es l = true → (∀ x ∈ l, 0 ≤ x ∧ x ≤ 8) → ∀ e ∈ es, ∀ x ∈ e.nums, okN x
  | [], _, _, _, e, he => by simp at he
  | e0 :: r, [], h, _, e, he => by cases h
  | e0 :: r, n :: l, h, hl, e, he => by
    unfold entsOk at h
    rw [Bool.and_eq_true] at h
    rcases List.mem_cons.1 he with rfl | he
    · intro x hx
      have h1 := h.1
      unfold entOk at h1
      simp only [Bool.and_eq_true, decide_eq_true_eq, List.all_cons, List.all_nil, and_true] at h1
      obtain ⟨⟨⟨h2, h3⟩, h4⟩, h5⟩ := h1
      have h6 := live_ok h3
      have h7 := hl n (by simp)
      simp only [Ent.nums, List.mem_cons, List.not_mem_nil, or_false] at hx
      rcases hx with rfl | rfl | rfl | rfl | rfl | rfl
      · unfold okN; omega
      · exact h6.1
      · exact h6.2.1
      · exact num_okN h4.1
      · exact num_okN h4.2.1
      · exact num_okN h4.2.2
    · exact entsOk_all h.2 (fun x hx => hl x (by simp [hx])) e he
theorem entsOk_len : ∀ {es : List Ent} {l : List Int}, entsOk es l = true → es.length ≤ l.length
  | [], _, _ => by simp
  | e0 :: r, [], h => by cases h
  | e0 :: r, n :: l, h => by
    unfold entsOk at h
    rw [Bool.and_eq_true] at h
    have := entsOk_len h.2
    simp only [List.length_cons]
    omega
theorem may_num {p : Pkt} (h : mayP p = true) : okN p.kind ∧ okN p.to ∧ (1 ≤ p.kind ∧ p.kind ≤ 5) ∧ ∀ x ∈ numsP p, okN x := by
  unfold mayP at h
  unfold numsP
  by_cases h1 : p.kind = 1
  · rw [if_pos h1] at h ⊢
    simp only [mayD, Bool.and_eq_true, decide_eq_true_eq, List.all_cons, List.all_nil, and_true] at h
    obtain ⟨h2, ⟨⟨⟨h3, h4⟩, h5, h6⟩, h7⟩, h8⟩ := h
    have h9 := live_ok h3
    have h10 := node_ok h7
    refine ⟨by unfold okN; omega, by unfold okN; omega, by omega, fun x hx => ?_⟩
    simp only [List.mem_cons, List.not_mem_nil, or_false] at hx
    rcases hx with rfl | rfl | rfl | rfl | rfl
    · exact h9.1
    · exact h9.2.1
    · exact num_okN h5
    · unfold okN; omega
    · exact num_okN h6
  rw [if_neg h1] at h ⊢
  by_cases h2 : p.kind = 2
  · rw [if_pos h2] at h ⊢
    simp only [mayT, tokHead, Bool.and_eq_true, decide_eq_true_eq, List.all_cons, List.all_nil, and_true, Bool.not_eq_true', decide_eq_false_iff_not] at h
    obtain ⟨h3, ⟨⟨⟨⟨⟨h4, h5⟩, h6, h7, h8, h9, h10⟩, h11⟩, h12⟩, h13⟩, h14⟩ := h
    have hn := node_ok h3
    have hl := live_ok h4
    refine ⟨by unfold okN; omega, by unfold okN; omega, by omega, fun x hx => ?_⟩
    simp only [List.mem_cons, List.not_mem_nil, or_false] at hx
    rcases hx with rfl | rfl | rfl | rfl | rfl | rfl | rfl | rfl
    · exact hl.1
    · exact hl.2.1
    · exact num_okN h6
    · exact num_okN h7
    · exact num_okN h8
    · unfold okN; omega
    · exact num_okN h9
    · exact num_okN h10
  rw [if_neg h2] at h ⊢
  by_cases h3 : p.kind = 3
  · rw [if_pos h3] at h ⊢
    simp only [Bool.and_eq_true, decide_eq_true_eq, List.all_cons, List.all_nil, and_true] at h
    obtain ⟨⟨⟨⟨h4, h5⟩, h6⟩, h7⟩, h8⟩ := h
    have hn := node_ok h5
    simp only [crewOk, decide_eq_true_eq] at h6
    refine ⟨by unfold okN; omega, by unfold okN; omega, by omega, fun x hx => ?_⟩
    simp only [List.mem_cons, List.not_mem_nil, or_false] at hx
    rcases hx with rfl | rfl | rfl
    · unfold okN; omega
    · unfold okN; omega
    · exact num_okN h8
  rw [if_neg h3] at h ⊢
  by_cases h4 : p.kind = 4
  · rw [if_pos h4] at h ⊢
    simp only [mayCm, comHead, comMid, Bool.and_eq_true, decide_eq_true_eq] at h
    obtain ⟨⟨⟨⟨h5, h6⟩, h7⟩, ⟨⟨h8, h9⟩, h10⟩, h11⟩, h12⟩ := h
    have hl := live_ok h7
    have hg := crewL_getD p.c.mem (p.c.hop.tmod ((crewL p.c.mem).length : Int)).toNat
    have hc := crewL_len p.c.mem
    simp only [crewOk, decide_eq_true_eq] at h5
    rw [← h11] at hg
    refine ⟨by unfold okN; omega, by unfold okN; omega, by omega, fun x hx => ?_⟩
    simp only [List.mem_cons, List.not_mem_nil, or_false] at hx
    rcases hx with rfl | rfl | rfl | rfl
    · exact hl.1
    · exact hl.2.1
    · unfold okN; omega
    · unfold okN; omega
  rw [if_neg h4] at h ⊢
  by_cases h5 : p.kind = 5
  · rw [if_pos h5] at h
    simp only [Bool.and_eq_true, decide_eq_true_eq] at h
    obtain ⟨⟨h6, h7⟩, h8⟩ := h
    have hl := live_ok h7
    have hn := node_ok h8
    refine ⟨by unfold okN; omega, by unfold okN; omega, by omega, fun x hx => ?_⟩
    simp only [List.mem_cons, List.not_mem_nil, or_false] at hx
    rcases hx with rfl | rfl | rfl
    · exact hl.1
    · exact hl.2.1
    · unfold okN; omega
  · rw [if_neg h5] at h
    cases h
theorem may_msg {p : Pkt} (h : mayP p = true) (hk : p.kind = 1) : check p.d.msg = 0 := by
  unfold mayP at h
  rw [if_pos hk] at h
  simp only [mayD, Bool.and_eq_true, decide_eq_true_eq] at h
  exact h.2.2
theorem may_ask {p : Pkt} (h : mayP p = true) (hk : p.kind = 2) : p.t.ask.length ≤ 16 ∧ ∀ x ∈ p.t.ask, okN x := by
  unfold mayP at h
  rw [if_neg (by omega), if_pos hk] at h
  simp only [mayT, tokHead, Bool.and_eq_true, decide_eq_true_eq, List.all_cons, List.all_nil, and_true, Bool.not_eq_true', decide_eq_false_iff_not] at h
  obtain ⟨h3, ⟨⟨⟨⟨⟨h4, h5⟩, h6, h7, h8, h9, h10⟩, h11⟩, h12⟩, h13⟩, h14⟩ := h
  refine ⟨by omega, fun x hx => ?_⟩
  have h1 := askOk_all h14 (by omega) x hx
  have h2 := num_okN h7
  unfold okN at h2 ⊢
  omega
theorem may_ents {p : Pkt} (h : mayP p = true) (hk : p.kind = 4) : p.c.ents.length ≤ 8 ∧ ∀ e ∈ p.c.ents, ∀ x ∈ e.nums, okN x := by
  unfold mayP at h
  rw [if_neg (by omega), if_neg (by omega), if_neg (by omega), if_pos hk] at h
  unfold mayCm at h
  simp only [Bool.and_eq_true] at h
  have h1 := entsOk_len h.2
  have h2 := crewL_len p.c.mem
  exact ⟨by omega, entsOk_all h.2 fun x hx => crewL_bd hx⟩
/-! ### written -/
def pvIn (b : Nat) (l : List Value) : List PV → Prop
  | [] => True
  | q :: r => (q.b = b ∧ l[q.o]? = some (.int .i64 q.v)) ∧ pvIn b l r
theorem pvIn_all {b : Nat} {l : List Value} : ∀ {qs : List PV}, pvIn b l qs → ∀ q ∈ qs, q.b = b ∧ l[q.o]? = some (.int .i64 q.v)
  | [], _, q, hq => by simp at hq
  | x :: r, h, q, hq => by
    rcases List.mem_cons.1 hq with rfl | hq
    · exact h.1
    · exact pvIn_all h.2 q hq
theorem pvIn_of {b : Nat} {l : List Value} {w : World} {qs : List PV} (h : Rd w (some ⟨b, 0, none⟩) l) (hq : pvIn b l qs) : (pvA qs).holds w := by
  intro q hm
  obtain ⟨h1, h2⟩ := pvIn_all hq q hm
  have h3 := h.cell h2
  rw [Nat.zero_add] at h3
  rw [h1]
  exact h3
theorem pk_apart {w0 w : World} {F : Nat → Prop} {L : List Asrt} {bc bw bp : Nat} {a : Option Addr} {c : Nat} {l : List Int} {p : Pkt} {A : PAd} (h : St w0 F L w) (hs : [wC bc bw a c l, rdA (some ⟨bp, 0, none⟩) (p.cells A)].Sublist L ∨ [rdA (some ⟨bp, 0, none⟩) (p.cells A), wC bc bw a c l].Sublist L) : ¬ (wC bc bw a c l).foot bp :=
  fun hf => St.apart2 h hs rfl bp hf ⟨by simp [Pkt.cells], _, rfl, rfl⟩
theorem rd_apart {w0 w : World} {F : Nat → Prop} {L : List Asrt} {bc bw : Nat} {a : Option Addr} {c : Nat} {l : List Int} {sa : Option Addr} {xs : List Value} (h : St w0 F L w) (hs : [wC bc bw a c l, rdA sa xs].Sublist L ∨ [rdA sa xs, wC bc bw a c l].Sublist L) : ∀ k, rdFoot sa xs k → ¬ (wC bc bw a c l).foot k :=
  fun k hk hf => St.apart2 h hs rfl k hf hk
set_option maxHeartbeats 16000000 in
theorem p55w (bc bw : Nat) (a : Option Addr) (c : Nat) (l : List Int) (bp : Nat) (A : PAd) (p : Pkt) (w : World) (hS0 : St w (wC bc bw a c l).foot [wC bc bw a c l, rdA (some ⟨bp, 0, none⟩) (p.cells A), rdA A.da (bv p.d.msg.body), rdA A.ta (p.t.ask.flatMap ivF), rdA A.ca (p.c.ents.flatMap Ent.cells)] w)
    (hzd : A.da = none → A.dc = 0) (hB : Byt p.d.msg.body) (hm : mayP p = true) (hl : l.length ≤ 1000) :
    CallsTo Tryz.prog 26 [.pointer (some ⟨bc, 0, none⟩), .pointer (some ⟨bp, 0, none⟩)] w fun v w' => ∃ a' c', v = .tuple #[] ∧ Step (wC bc bw a c l) (wC bc bw a' c' (l ++ bodyP p)) w w' := by
  generalize hF : (wC bc bw a c l).foot = F at hS0
  have hokk := may_num hm
  have hok : okN p.kind ∧ okN p.to ∧ True := ⟨hokk.1, hokk.2.1, trivial⟩
  have hrange := hokk.2.2.1
  have hnum := hokk.2.2.2
  clear hokk
  refine go_in (n := 158) hS0 Tryz.func26 rfl rfl ?_
  by_cases hk : p.kind = 1
  · have en : numsP p = [p.d.rseq, p.d.rrep, p.d.seq, p.d.sender, p.d.stamp] := by unfold numsP; rw [if_pos hk]
    rw [en] at hnum
    have hl0 := encs_len [p.kind]
    have hl1 := encs_len [p.to]
    have hl2 := encs_len [p.d.rseq, p.d.rrep]
    have hl3 := encs_len [p.d.seq, p.d.sender, p.d.stamp]
    simp only [List.length_cons, List.length_nil] at hl0 hl1 hl2 hl3
    repeat'(first|(apply CW.reg_held (St w F [rdA (some ⟨bp, 0, none⟩) (p.cells A), rdA A.da (bv p.d.msg.body), rdA A.ta (p.t.ask.flatMap ivF), rdA A.ca (p.c.ents.flatMap Ent.cells)]))|(apply Go.Hb.kK;(iterate 4 exact rfl);intro bs)|refine kv' ?_|apply jJ|refine jE' ?_|refine jp' ?_|(apply jc;kernel_rfl)|refine kg' ?_|refine kG' ?_|refine kB' fun _=>?_|refine kA' fun _=>?_|refine kK' fun _=>?_|refine kU' ?_|(apply kq; (· exact rfl); (· intro w1 h1; exact CallsTo.q (p88 p.kind 1 5 w1) h1))|(apply LR.ev; (· apply Ev.load (v := .int .i64 0); (· exact rfl); (· exact fun w' hw' => wC_e (hw'.holds (wC bc bw _ _ _) (by (repeat (first | exact mH _ _ | apply mT)))))); (· exact rfl))|(apply LR.ev; (· apply Ev.load (v := .int .i64 p.kind); (· exact rfl); (· exact fun w' hw' => (hw'.rd_of (a := some ⟨bp, 0, none⟩) (xs := p.cells A) (by (repeat (first | exact mH _ _ | apply mT)))).cell (j := 0) rfl)); (· exact rfl))|(apply LR.call; (· exact rfl); (intro w1 h1; first | (refine (p87w bc bw _ _ (l) bs [(⟨bp, 0, p.kind⟩ : PV)] w1 (h1.holds (wC bc bw _ _ (l)) (by (repeat (first | exact mH _ _ | apply mT)))) (h1.rd_of_blk (by (repeat (first | exact mH _ _ | apply mT)))) (pvIn_of (h1.rd_of (a := some ⟨bp, 0, none⟩) (xs := p.cells A) (by (repeat (first | exact mH _ _ | apply mT)))) (by refine ⟨⟨rfl, rfl⟩, ?_⟩; exact trivial)) (fun q hq => by (have e : q.b = bp := (pvIn_all (b := bp) (l := p.cells A) (qs := [(⟨bp, 0, p.kind⟩ : PV)]) (by refine ⟨⟨rfl, rfl⟩, ?_⟩; exact trivial) q hq).1); rw [e]; exact pk_apart h1 (.inl (by (repeat (first | exact List.Sublist.refl _ | apply List.Sublist.cons_cons | apply List.Sublist.cons))))) (St.apart2 (x := .own bs (.cells _ 114 (0, 0))) h1 (.inl (by (repeat (first | exact List.Sublist.refl _ | apply List.Sublist.cons_cons | apply List.Sublist.cons)))) rfl bs rfl) (fun q hq => by simp only [List.mem_cons, List.not_mem_nil, or_false] at hq; rcases hq with rfl <;> first | exact hok.1 | exact hok.2.1 | exact hnum _ (by simp)) (by (try simp only [List.length_append]); omega) (by simp)).mono ?_; rintro v w2 ⟨_, _, rfl, st⟩; refine LR.back (St.did h1 (by (repeat (first | exact sH _ _ _ | apply sT))) rfl st (wC_dep _ _ _ _ _)) ?_; clear st h1) | (refine (p87w bc bw _ _ (l ++ encs [p.kind]) bs [(⟨bp, 1, p.to⟩ : PV)] w1 (h1.holds (wC bc bw _ _ (l ++ encs [p.kind])) (by (repeat (first | exact mH _ _ | apply mT)))) (h1.rd_of_blk (by (repeat (first | exact mH _ _ | apply mT)))) (pvIn_of (h1.rd_of (a := some ⟨bp, 0, none⟩) (xs := p.cells A) (by (repeat (first | exact mH _ _ | apply mT)))) (by refine ⟨⟨rfl, rfl⟩, ?_⟩; exact trivial)) (fun q hq => by (have e : q.b = bp := (pvIn_all (b := bp) (l := p.cells A) (qs := [(⟨bp, 1, p.to⟩ : PV)]) (by refine ⟨⟨rfl, rfl⟩, ?_⟩; exact trivial) q hq).1); rw [e]; exact pk_apart h1 (.inl (by (repeat (first | exact List.Sublist.refl _ | apply List.Sublist.cons_cons | apply List.Sublist.cons))))) (St.apart2 (x := .own bs (.cells _ 114 (0, 0))) h1 (.inl (by (repeat (first | exact List.Sublist.refl _ | apply List.Sublist.cons_cons | apply List.Sublist.cons)))) rfl bs rfl) (fun q hq => by simp only [List.mem_cons, List.not_mem_nil, or_false] at hq; rcases hq with rfl <;> first | exact hok.1 | exact hok.2.1 | exact hnum _ (by simp)) (by (try simp only [List.length_append]); omega) (by simp)).mono ?_; rintro v w2 ⟨_, _, rfl, st⟩; refine LR.back (St.did h1 (by (repeat (first | exact sH _ _ _ | apply sT))) rfl st (wC_dep _ _ _ _ _)) ?_; clear st h1) | (refine (p89w bc bw _ _ (l ++ encs [p.kind] ++ encs [p.to]) bp 2 p.d.rseq p.d.rrep w1 (h1.holds (wC bc bw _ _ (l ++ encs [p.kind] ++ encs [p.to])) (by (repeat (first | exact mH _ _ | apply mT)))) (pvIn_of (h1.rd_of (a := some ⟨bp, 0, none⟩) (xs := p.cells A) (by (repeat (first | exact mH _ _ | apply mT)))) (by refine ⟨⟨rfl, rfl⟩, ?_⟩; refine ⟨⟨rfl, rfl⟩, ?_⟩; exact trivial)) (fun q hq => by simp only [List.mem_cons, List.not_mem_nil, or_false] at hq; rcases hq with rfl | rfl <;> exact pk_apart h1 (.inl (by (repeat (first | exact List.Sublist.refl _ | apply List.Sublist.cons_cons | apply List.Sublist.cons))))) (hnum _ (by simp)) (hnum _ (by simp)) (by (try simp only [List.length_append]); omega)).mono ?_; rintro v w2 ⟨_, _, rfl, st⟩; refine LR.back (St.did h1 (by (repeat (first | exact sH _ _ _ | apply sT))) rfl st (wC_dep _ _ _ _ _)) ?_; clear st h1)))|((first|refine kR' ?_ ?_|refine kQ' ?_ ?_);all_goals(intro hc;try simp only[hcs]at hc;try(exfalso;first|contradiction|omega))))
    all_goals (
      apply DW.quiet [0, 1, 2, 3, 4, 5, 6, 7, 8, 9]
      · decide +kernel
      · first | exact fun _ h => h | exact fun _ h => St.sub h (by repeat (first | exact List.Sublist.refl _ | apply List.Sublist.cons_cons | apply List.Sublist.cons))
      repeat'(first|refine yv' ?_|refine uv' ?_|refine un' ?_|(refine us' ?_ ?_;all_goals(intro hc;try simp only[hcs]at hc;try(exfalso;first|contradiction|omega)))|apply QL.nil)
      all_goals (show DW _ _ _ _ _ _ _ _))
    all_goals (
      apply DW.loud 10
      · exact rfl
      · decide +kernel
      repeat'(first|(apply Go.Hb.kK;(iterate 4 exact rfl);intro bs)|refine kg' ?_|refine kG' ?_|apply kM|refine kv' ?_|refine kK' fun _=>?_|refine kU' ?_|refine kB' fun _=>?_|refine kA' fun _=>?_|(apply LR.call; (· exact rfl); (intro w1 h1; (refine (p87w bc bw _ _ (l ++ encs [p.kind] ++ encs [p.to] ++ encs [p.d.rseq, p.d.rrep]) bs [(⟨bp, 4, p.d.seq⟩ : PV), (⟨bp, 5, p.d.sender⟩ : PV), (⟨bp, 6, p.d.stamp⟩ : PV)] w1 (h1.holds (wC bc bw _ _ (l ++ encs [p.kind] ++ encs [p.to] ++ encs [p.d.rseq, p.d.rrep])) (by (repeat (first | exact mH _ _ | apply mT)))) (h1.rd_of_blk (by (repeat (first | exact mH _ _ | apply mT)))) (pvIn_of (h1.rd_of (a := some ⟨bp, 0, none⟩) (xs := p.cells A) (by (repeat (first | exact mH _ _ | apply mT)))) (by refine ⟨⟨rfl, rfl⟩, ?_⟩; refine ⟨⟨rfl, rfl⟩, ?_⟩; refine ⟨⟨rfl, rfl⟩, ?_⟩; exact trivial)) (fun q hq => by (have e : q.b = bp := (pvIn_all (b := bp) (l := p.cells A) (qs := [(⟨bp, 4, p.d.seq⟩ : PV), (⟨bp, 5, p.d.sender⟩ : PV), (⟨bp, 6, p.d.stamp⟩ : PV)]) (by refine ⟨⟨rfl, rfl⟩, ?_⟩; refine ⟨⟨rfl, rfl⟩, ?_⟩; refine ⟨⟨rfl, rfl⟩, ?_⟩; exact trivial) q hq).1); rw [e]; exact pk_apart h1 (.inl (by (repeat (first | exact List.Sublist.refl _ | apply List.Sublist.cons_cons | apply List.Sublist.cons))))) (St.apart2 (x := .own bs (.cells _ 114 (0, 0))) h1 (.inl (by (repeat (first | exact List.Sublist.refl _ | apply List.Sublist.cons_cons | apply List.Sublist.cons)))) rfl bs rfl) (fun q hq => by simp only [List.mem_cons, List.not_mem_nil, or_false] at hq; rcases hq with rfl | rfl | rfl <;> first | exact hok.1 | exact hok.2.1 | exact hnum _ (by simp)) (by (try simp only [List.length_append]); omega) (by simp)).mono ?_; rintro v w2 ⟨_, _, rfl, st⟩; refine LR.back (St.did h1 (by (repeat (first | exact sH _ _ _ | apply sT))) rfl st (wC_dep _ _ _ _ _)) ?_; clear st h1))))
      all_goals (refine At.stage_same (fun _ h => St.sub h (by repeat (first | exact List.Sublist.refl _ | apply List.Sublist.cons_cons | apply List.Sublist.cons))) ?_))
    all_goals (
      apply DW.loud 11
      · exact rfl
      · decide +kernel
      repeat'(first|(apply Go.Hb.kK;(iterate 4 exact rfl);intro bs)|refine kg' ?_|refine kG' ?_|apply kM|refine kv' ?_|refine kK' fun _=>?_|refine kU' ?_|refine kB' fun _=>?_|refine kA' fun _=>?_|(apply LR.call; (· exact rfl); (intro w1 h1; (refine (p87w bc bw _ _ (l ++ encs [p.kind] ++ encs [p.to] ++ encs [p.d.rseq, p.d.rrep]) bs [(⟨bp, 4, p.d.seq⟩ : PV), (⟨bp, 5, p.d.sender⟩ : PV), (⟨bp, 6, p.d.stamp⟩ : PV)] w1 (h1.holds (wC bc bw _ _ (l ++ encs [p.kind] ++ encs [p.to] ++ encs [p.d.rseq, p.d.rrep])) (by (repeat (first | exact mH _ _ | apply mT)))) (h1.rd_of_blk (by (repeat (first | exact mH _ _ | apply mT)))) (pvIn_of (h1.rd_of (a := some ⟨bp, 0, none⟩) (xs := p.cells A) (by (repeat (first | exact mH _ _ | apply mT)))) (by refine ⟨⟨rfl, rfl⟩, ?_⟩; refine ⟨⟨rfl, rfl⟩, ?_⟩; refine ⟨⟨rfl, rfl⟩, ?_⟩; exact trivial)) (fun q hq => by (have e : q.b = bp := (pvIn_all (b := bp) (l := p.cells A) (qs := [(⟨bp, 4, p.d.seq⟩ : PV), (⟨bp, 5, p.d.sender⟩ : PV), (⟨bp, 6, p.d.stamp⟩ : PV)]) (by refine ⟨⟨rfl, rfl⟩, ?_⟩; refine ⟨⟨rfl, rfl⟩, ?_⟩; refine ⟨⟨rfl, rfl⟩, ?_⟩; exact trivial) q hq).1); rw [e]; exact pk_apart h1 (.inl (by (repeat (first | exact List.Sublist.refl _ | apply List.Sublist.cons_cons | apply List.Sublist.cons))))) (St.apart2 (x := .own bs (.cells _ 114 (0, 0))) h1 (.inl (by (repeat (first | exact List.Sublist.refl _ | apply List.Sublist.cons_cons | apply List.Sublist.cons)))) rfl bs rfl) (fun q hq => by simp only [List.mem_cons, List.not_mem_nil, or_false] at hq; rcases hq with rfl | rfl | rfl <;> first | exact hok.1 | exact hok.2.1 | exact hnum _ (by simp)) (by (try simp only [List.length_append]); omega) (by simp)).mono ?_; rintro v w2 ⟨_, _, rfl, st⟩; refine LR.back (St.did h1 (by (repeat (first | exact sH _ _ _ | apply sT))) rfl st (wC_dep _ _ _ _ _)) ?_; clear st h1))))
      all_goals (refine At.stage_same (fun _ h => St.sub h (by repeat (first | exact List.Sublist.refl _ | apply List.Sublist.cons_cons | apply List.Sublist.cons))) ?_))
    all_goals (first | (apply DW.done_thn; (· decide +kernel)) | (apply DW.done; (· decide +kernel)))
    repeat'(first|refine kv' ?_|apply jJ|refine jE' ?_|refine jp' ?_|(apply jc;kernel_rfl)|refine kg' ?_|refine kG' ?_|refine kB' fun _=>?_|refine kA' fun _=>?_|refine kK' fun _=>?_|refine kU' ?_|(apply LR.call; (· exact rfl); (intro w1 h1; first | (refine (p90w bc bw _ _ (l ++ encs [p.kind] ++ encs [p.to] ++ encs [p.d.rseq, p.d.rrep] ++ encs [p.d.seq, p.d.sender, p.d.stamp]) bp 7 A.da A.dc p.d.msg w1 (h1.holds (wC bc bw _ _ (l ++ encs [p.kind] ++ encs [p.to] ++ encs [p.d.rseq, p.d.rrep] ++ encs [p.d.seq, p.d.sender, p.d.stamp])) (by (repeat (first | exact mH _ _ | apply mT)))) (atL_of (h1.rd_of (a := some ⟨bp, 0, none⟩) (xs := p.cells A) (by (repeat (first | exact mH _ _ | apply mT)))) rfl) (h1.rd_of (a := A.da) (xs := bv p.d.msg.body) (by (repeat (first | exact mH _ _ | apply mT)))) (pk_apart h1 (.inl (by (repeat (first | exact List.Sublist.refl _ | apply List.Sublist.cons_cons | apply List.Sublist.cons))))) (rd_apart h1 (.inl (by (repeat (first | exact List.Sublist.refl _ | apply List.Sublist.cons_cons | apply List.Sublist.cons))))) hzd hB (may_msg hm hk) (by (try simp only [List.length_append]); omega)).mono ?_; rintro v w2 ⟨_, _, rfl, st⟩; refine LR.back (St.did h1 (by (repeat (first | exact sH _ _ _ | apply sT))) rfl st (wC_dep _ _ _ _ _)) ?_; clear st h1)))|((first|refine kR' ?_ ?_|refine kQ' ?_ ?_);all_goals(intro hc;try simp only[hcs]at hc;try(exfalso;first|contradiction|omega))))
    apply end0
    · exact rfl
    intro w' hS
    have e9 : l ++ bodyP p = l ++ encs [p.kind] ++ encs [p.to] ++ encs [p.d.rseq, p.d.rrep] ++ encs [p.d.seq, p.d.sender, p.d.stamp] ++ enc (bytesM p.d.msg).length ++ bytesM p.d.msg := by
      unfold bodyP tailP
      rw [en, if_pos hk]
      rw [show [p.kind, p.to] = [p.kind] ++ [p.to] from rfl, show [p.d.rseq, p.d.rrep, p.d.seq, p.d.sender, p.d.stamp] = [p.d.rseq, p.d.rrep] ++ [p.d.seq, p.d.sender, p.d.stamp] from rfl]
      simp only [encs_app, List.append_assoc, List.append_nil]
    subst hF
    rw [e9]
    exact ⟨_, _, rfl, (hS.sub (L' := [wC bc bw _ _ (l ++ encs [p.kind] ++ encs [p.to] ++ encs [p.d.rseq, p.d.rrep] ++ encs [p.d.seq, p.d.sender, p.d.stamp] ++ enc (bytesM p.d.msg).length ++ bytesM p.d.msg)]) (by (repeat (first | exact List.Sublist.refl _ | apply List.Sublist.cons_cons | apply List.Sublist.cons)))).step rfl⟩
  by_cases hk : p.kind = 2
  · have en : numsP p = [p.t.r1, p.t.r2, p.t.hop, p.t.seq, p.t.aru, p.t.low, p.t.stamp, p.t.idle] := by unfold numsP; rw [if_neg (by omega), if_pos hk]
    rw [en] at hnum
    have hl0 := encs_len [p.kind]
    have hl1 := encs_len [p.to]
    have hl2 := encs_len [p.t.r1, p.t.r2]
    have hl3 := encs_len [p.t.hop, p.t.seq, p.t.aru, p.t.low, p.t.stamp, p.t.idle]
    simp only [List.length_cons, List.length_nil] at hl0 hl1 hl2 hl3
    repeat'(first|(apply CW.reg_held (St w F [rdA (some ⟨bp, 0, none⟩) (p.cells A), rdA A.da (bv p.d.msg.body), rdA A.ta (p.t.ask.flatMap ivF), rdA A.ca (p.c.ents.flatMap Ent.cells)]))|(apply Go.Hb.kK;(iterate 4 exact rfl);intro bs)|refine kv' ?_|apply jJ|refine jE' ?_|refine jp' ?_|(apply jc;kernel_rfl)|refine kg' ?_|refine kG' ?_|refine kB' fun _=>?_|refine kA' fun _=>?_|refine kK' fun _=>?_|refine kU' ?_|(apply kq; (· exact rfl); (· intro w1 h1; exact CallsTo.q (p88 p.kind 1 5 w1) h1))|(apply LR.ev; (· apply Ev.load (v := .int .i64 0); (· exact rfl); (· exact fun w' hw' => wC_e (hw'.holds (wC bc bw _ _ _) (by (repeat (first | exact mH _ _ | apply mT)))))); (· exact rfl))|(apply LR.ev; (· apply Ev.load (v := .int .i64 p.kind); (· exact rfl); (· exact fun w' hw' => (hw'.rd_of (a := some ⟨bp, 0, none⟩) (xs := p.cells A) (by (repeat (first | exact mH _ _ | apply mT)))).cell (j := 0) rfl)); (· exact rfl))|(apply LR.call; (· exact rfl); (intro w1 h1; first | (refine (p87w bc bw _ _ (l) bs [(⟨bp, 0, p.kind⟩ : PV)] w1 (h1.holds (wC bc bw _ _ (l)) (by (repeat (first | exact mH _ _ | apply mT)))) (h1.rd_of_blk (by (repeat (first | exact mH _ _ | apply mT)))) (pvIn_of (h1.rd_of (a := some ⟨bp, 0, none⟩) (xs := p.cells A) (by (repeat (first | exact mH _ _ | apply mT)))) (by refine ⟨⟨rfl, rfl⟩, ?_⟩; exact trivial)) (fun q hq => by (have e : q.b = bp := (pvIn_all (b := bp) (l := p.cells A) (qs := [(⟨bp, 0, p.kind⟩ : PV)]) (by refine ⟨⟨rfl, rfl⟩, ?_⟩; exact trivial) q hq).1); rw [e]; exact pk_apart h1 (.inl (by (repeat (first | exact List.Sublist.refl _ | apply List.Sublist.cons_cons | apply List.Sublist.cons))))) (St.apart2 (x := .own bs (.cells _ 114 (0, 0))) h1 (.inl (by (repeat (first | exact List.Sublist.refl _ | apply List.Sublist.cons_cons | apply List.Sublist.cons)))) rfl bs rfl) (fun q hq => by simp only [List.mem_cons, List.not_mem_nil, or_false] at hq; rcases hq with rfl <;> first | exact hok.1 | exact hok.2.1 | exact hnum _ (by simp)) (by (try simp only [List.length_append]); omega) (by simp)).mono ?_; rintro v w2 ⟨_, _, rfl, st⟩; refine LR.back (St.did h1 (by (repeat (first | exact sH _ _ _ | apply sT))) rfl st (wC_dep _ _ _ _ _)) ?_; clear st h1) | (refine (p87w bc bw _ _ (l ++ encs [p.kind]) bs [(⟨bp, 1, p.to⟩ : PV)] w1 (h1.holds (wC bc bw _ _ (l ++ encs [p.kind])) (by (repeat (first | exact mH _ _ | apply mT)))) (h1.rd_of_blk (by (repeat (first | exact mH _ _ | apply mT)))) (pvIn_of (h1.rd_of (a := some ⟨bp, 0, none⟩) (xs := p.cells A) (by (repeat (first | exact mH _ _ | apply mT)))) (by refine ⟨⟨rfl, rfl⟩, ?_⟩; exact trivial)) (fun q hq => by (have e : q.b = bp := (pvIn_all (b := bp) (l := p.cells A) (qs := [(⟨bp, 1, p.to⟩ : PV)]) (by refine ⟨⟨rfl, rfl⟩, ?_⟩; exact trivial) q hq).1); rw [e]; exact pk_apart h1 (.inl (by (repeat (first | exact List.Sublist.refl _ | apply List.Sublist.cons_cons | apply List.Sublist.cons))))) (St.apart2 (x := .own bs (.cells _ 114 (0, 0))) h1 (.inl (by (repeat (first | exact List.Sublist.refl _ | apply List.Sublist.cons_cons | apply List.Sublist.cons)))) rfl bs rfl) (fun q hq => by simp only [List.mem_cons, List.not_mem_nil, or_false] at hq; rcases hq with rfl <;> first | exact hok.1 | exact hok.2.1 | exact hnum _ (by simp)) (by (try simp only [List.length_append]); omega) (by simp)).mono ?_; rintro v w2 ⟨_, _, rfl, st⟩; refine LR.back (St.did h1 (by (repeat (first | exact sH _ _ _ | apply sT))) rfl st (wC_dep _ _ _ _ _)) ?_; clear st h1) | (refine (p89w bc bw _ _ (l ++ encs [p.kind] ++ encs [p.to]) bp 20 p.t.r1 p.t.r2 w1 (h1.holds (wC bc bw _ _ (l ++ encs [p.kind] ++ encs [p.to])) (by (repeat (first | exact mH _ _ | apply mT)))) (pvIn_of (h1.rd_of (a := some ⟨bp, 0, none⟩) (xs := p.cells A) (by (repeat (first | exact mH _ _ | apply mT)))) (by refine ⟨⟨rfl, rfl⟩, ?_⟩; refine ⟨⟨rfl, rfl⟩, ?_⟩; exact trivial)) (fun q hq => by simp only [List.mem_cons, List.not_mem_nil, or_false] at hq; rcases hq with rfl | rfl <;> exact pk_apart h1 (.inl (by (repeat (first | exact List.Sublist.refl _ | apply List.Sublist.cons_cons | apply List.Sublist.cons))))) (hnum _ (by simp)) (hnum _ (by simp)) (by (try simp only [List.length_append]); omega)).mono ?_; rintro v w2 ⟨_, _, rfl, st⟩; refine LR.back (St.did h1 (by (repeat (first | exact sH _ _ _ | apply sT))) rfl st (wC_dep _ _ _ _ _)) ?_; clear st h1)))|((first|refine kR' ?_ ?_|refine kQ' ?_ ?_);all_goals(intro hc;try simp only[hcs]at hc;try(exfalso;first|contradiction|omega))))
    all_goals (
      apply DW.quiet [0, 1, 2, 3, 4, 5, 6, 7, 8, 9, 10, 11, 12, 13, 14, 15, 16, 17, 18]
      · decide +kernel
      · first | exact fun _ h => h | exact fun _ h => St.sub h (by repeat (first | exact List.Sublist.refl _ | apply List.Sublist.cons_cons | apply List.Sublist.cons))
      repeat'(first|refine yv' ?_|refine uv' ?_|refine un' ?_|(refine us' ?_ ?_;all_goals(intro hc;try simp only[hcs]at hc;try(exfalso;first|contradiction|omega)))|apply QL.nil)
      all_goals (show DW _ _ _ _ _ _ _ _))
    all_goals (
      apply DW.loud 19
      · exact rfl
      · decide +kernel
      repeat'(first|(apply Go.Hb.kK;(iterate 4 exact rfl);intro bs)|refine kg' ?_|refine kG' ?_|apply kM|refine kv' ?_|refine kK' fun _=>?_|refine kU' ?_|refine kB' fun _=>?_|refine kA' fun _=>?_|(apply LR.call; (· exact rfl); (intro w1 h1; (refine (p87w bc bw _ _ (l ++ encs [p.kind] ++ encs [p.to] ++ encs [p.t.r1, p.t.r2]) bs [(⟨bp, 22, p.t.hop⟩ : PV), (⟨bp, 23, p.t.seq⟩ : PV), (⟨bp, 24, p.t.aru⟩ : PV), (⟨bp, 25, p.t.low⟩ : PV), (⟨bp, 26, p.t.stamp⟩ : PV), (⟨bp, 27, p.t.idle⟩ : PV)] w1 (h1.holds (wC bc bw _ _ (l ++ encs [p.kind] ++ encs [p.to] ++ encs [p.t.r1, p.t.r2])) (by (repeat (first | exact mH _ _ | apply mT)))) (h1.rd_of_blk (by (repeat (first | exact mH _ _ | apply mT)))) (pvIn_of (h1.rd_of (a := some ⟨bp, 0, none⟩) (xs := p.cells A) (by (repeat (first | exact mH _ _ | apply mT)))) (by refine ⟨⟨rfl, rfl⟩, ?_⟩; refine ⟨⟨rfl, rfl⟩, ?_⟩; refine ⟨⟨rfl, rfl⟩, ?_⟩; refine ⟨⟨rfl, rfl⟩, ?_⟩; refine ⟨⟨rfl, rfl⟩, ?_⟩; refine ⟨⟨rfl, rfl⟩, ?_⟩; exact trivial)) (fun q hq => by (have e : q.b = bp := (pvIn_all (b := bp) (l := p.cells A) (qs := [(⟨bp, 22, p.t.hop⟩ : PV), (⟨bp, 23, p.t.seq⟩ : PV), (⟨bp, 24, p.t.aru⟩ : PV), (⟨bp, 25, p.t.low⟩ : PV), (⟨bp, 26, p.t.stamp⟩ : PV), (⟨bp, 27, p.t.idle⟩ : PV)]) (by refine ⟨⟨rfl, rfl⟩, ?_⟩; refine ⟨⟨rfl, rfl⟩, ?_⟩; refine ⟨⟨rfl, rfl⟩, ?_⟩; refine ⟨⟨rfl, rfl⟩, ?_⟩; refine ⟨⟨rfl, rfl⟩, ?_⟩; refine ⟨⟨rfl, rfl⟩, ?_⟩; exact trivial) q hq).1); rw [e]; exact pk_apart h1 (.inl (by (repeat (first | exact List.Sublist.refl _ | apply List.Sublist.cons_cons | apply List.Sublist.cons))))) (St.apart2 (x := .own bs (.cells _ 114 (0, 0))) h1 (.inl (by (repeat (first | exact List.Sublist.refl _ | apply List.Sublist.cons_cons | apply List.Sublist.cons)))) rfl bs rfl) (fun q hq => by simp only [List.mem_cons, List.not_mem_nil, or_false] at hq; rcases hq with rfl | rfl | rfl | rfl | rfl | rfl <;> first | exact hok.1 | exact hok.2.1 | exact hnum _ (by simp)) (by (try simp only [List.length_append]); omega) (by simp)).mono ?_; rintro v w2 ⟨_, _, rfl, st⟩; refine LR.back (St.did h1 (by (repeat (first | exact sH _ _ _ | apply sT))) rfl st (wC_dep _ _ _ _ _)) ?_; clear st h1))))
      all_goals (refine At.stage_same (fun _ h => St.sub h (by repeat (first | exact List.Sublist.refl _ | apply List.Sublist.cons_cons | apply List.Sublist.cons))) ?_))
    all_goals (
      apply DW.loud 20
      · exact rfl
      · decide +kernel
      repeat'(first|(apply Go.Hb.kK;(iterate 4 exact rfl);intro bs)|refine kg' ?_|refine kG' ?_|apply kM|refine kv' ?_|refine kK' fun _=>?_|refine kU' ?_|refine kB' fun _=>?_|refine kA' fun _=>?_|(apply LR.call; (· exact rfl); (intro w1 h1; (refine (p87w bc bw _ _ (l ++ encs [p.kind] ++ encs [p.to] ++ encs [p.t.r1, p.t.r2]) bs [(⟨bp, 22, p.t.hop⟩ : PV), (⟨bp, 23, p.t.seq⟩ : PV), (⟨bp, 24, p.t.aru⟩ : PV), (⟨bp, 25, p.t.low⟩ : PV), (⟨bp, 26, p.t.stamp⟩ : PV), (⟨bp, 27, p.t.idle⟩ : PV)] w1 (h1.holds (wC bc bw _ _ (l ++ encs [p.kind] ++ encs [p.to] ++ encs [p.t.r1, p.t.r2])) (by (repeat (first | exact mH _ _ | apply mT)))) (h1.rd_of_blk (by (repeat (first | exact mH _ _ | apply mT)))) (pvIn_of (h1.rd_of (a := some ⟨bp, 0, none⟩) (xs := p.cells A) (by (repeat (first | exact mH _ _ | apply mT)))) (by refine ⟨⟨rfl, rfl⟩, ?_⟩; refine ⟨⟨rfl, rfl⟩, ?_⟩; refine ⟨⟨rfl, rfl⟩, ?_⟩; refine ⟨⟨rfl, rfl⟩, ?_⟩; refine ⟨⟨rfl, rfl⟩, ?_⟩; refine ⟨⟨rfl, rfl⟩, ?_⟩; exact trivial)) (fun q hq => by (have e : q.b = bp := (pvIn_all (b := bp) (l := p.cells A) (qs := [(⟨bp, 22, p.t.hop⟩ : PV), (⟨bp, 23, p.t.seq⟩ : PV), (⟨bp, 24, p.t.aru⟩ : PV), (⟨bp, 25, p.t.low⟩ : PV), (⟨bp, 26, p.t.stamp⟩ : PV), (⟨bp, 27, p.t.idle⟩ : PV)]) (by refine ⟨⟨rfl, rfl⟩, ?_⟩; refine ⟨⟨rfl, rfl⟩, ?_⟩; refine ⟨⟨rfl, rfl⟩, ?_⟩; refine ⟨⟨rfl, rfl⟩, ?_⟩; refine ⟨⟨rfl, rfl⟩, ?_⟩; refine ⟨⟨rfl, rfl⟩, ?_⟩; exact trivial) q hq).1); rw [e]; exact pk_apart h1 (.inl (by (repeat (first | exact List.Sublist.refl _ | apply List.Sublist.cons_cons | apply List.Sublist.cons))))) (St.apart2 (x := .own bs (.cells _ 114 (0, 0))) h1 (.inl (by (repeat (first | exact List.Sublist.refl _ | apply List.Sublist.cons_cons | apply List.Sublist.cons)))) rfl bs rfl) (fun q hq => by simp only [List.mem_cons, List.not_mem_nil, or_false] at hq; rcases hq with rfl | rfl | rfl | rfl | rfl | rfl <;> first | exact hok.1 | exact hok.2.1 | exact hnum _ (by simp)) (by (try simp only [List.length_append]); omega) (by simp)).mono ?_; rintro v w2 ⟨_, _, rfl, st⟩; refine LR.back (St.did h1 (by (repeat (first | exact sH _ _ _ | apply sT))) rfl st (wC_dep _ _ _ _ _)) ?_; clear st h1))))
      all_goals (refine At.stage_same (fun _ h => St.sub h (by repeat (first | exact List.Sublist.refl _ | apply List.Sublist.cons_cons | apply List.Sublist.cons))) ?_))
    all_goals (first | (apply DW.done_thn; (· decide +kernel)) | (apply DW.done; (· decide +kernel)))
    repeat'(first|refine kv' ?_|apply jJ|refine jE' ?_|refine jp' ?_|(apply jc;kernel_rfl)|refine kg' ?_|refine kG' ?_|refine kB' fun _=>?_|refine kA' fun _=>?_|refine kK' fun _=>?_|refine kU' ?_|(apply LR.call; (· exact rfl); (intro w1 h1; first | (refine (p91w bc bw _ _ (l ++ encs [p.kind] ++ encs [p.to] ++ encs [p.t.r1, p.t.r2] ++ encs [p.t.hop, p.t.seq, p.t.aru, p.t.low, p.t.stamp, p.t.idle]) bp 28 A.ta A.tc p.t.ask 16 w1 (h1.holds (wC bc bw _ _ (l ++ encs [p.kind] ++ encs [p.to] ++ encs [p.t.r1, p.t.r2] ++ encs [p.t.hop, p.t.seq, p.t.aru, p.t.low, p.t.stamp, p.t.idle])) (by (repeat (first | exact mH _ _ | apply mT)))) (atL_of (h1.rd_of (a := some ⟨bp, 0, none⟩) (xs := p.cells A) (by (repeat (first | exact mH _ _ | apply mT)))) rfl) (h1.rd_of (a := A.ta) (xs := p.t.ask.flatMap ivF) (by (repeat (first | exact mH _ _ | apply mT)))) (pk_apart h1 (.inl (by (repeat (first | exact List.Sublist.refl _ | apply List.Sublist.cons_cons | apply List.Sublist.cons))))) (rd_apart h1 (.inl (by (repeat (first | exact List.Sublist.refl _ | apply List.Sublist.cons_cons | apply List.Sublist.cons))))) (may_ask hm hk).2 (by (try simp only [List.length_append]); omega) (by have := (may_ask hm hk).1; omega) (by omega)).mono ?_; rintro v w2 ⟨_, _, rfl, st⟩; refine LR.back (St.did h1 (by (repeat (first | exact sH _ _ _ | apply sT))) rfl st (wC_dep _ _ _ _ _)) ?_; clear st h1)))|((first|refine kR' ?_ ?_|refine kQ' ?_ ?_);all_goals(intro hc;try simp only[hcs]at hc;try(exfalso;first|contradiction|omega))))
    apply end0
    · exact rfl
    intro w' hS
    have e9 : l ++ bodyP p = l ++ encs [p.kind] ++ encs [p.to] ++ encs [p.t.r1, p.t.r2] ++ encs [p.t.hop, p.t.seq, p.t.aru, p.t.low, p.t.stamp, p.t.idle] ++ enc p.t.ask.length ++ encs (p.t.ask.flatMap one1) := by
      unfold bodyP tailP
      rw [en, if_neg (by omega), if_pos hk]
      rw [one1_flat]
      rw [show [p.kind, p.to] = [p.kind] ++ [p.to] from rfl, show [p.t.r1, p.t.r2, p.t.hop, p.t.seq, p.t.aru, p.t.low, p.t.stamp, p.t.idle] = [p.t.r1, p.t.r2] ++ [p.t.hop, p.t.seq, p.t.aru, p.t.low, p.t.stamp, p.t.idle] from rfl]
      simp only [encs_app, List.append_assoc, List.append_nil]
    subst hF
    rw [e9]
    exact ⟨_, _, rfl, (hS.sub (L' := [wC bc bw _ _ (l ++ encs [p.kind] ++ encs [p.to] ++ encs [p.t.r1, p.t.r2] ++ encs [p.t.hop, p.t.seq, p.t.aru, p.t.low, p.t.stamp, p.t.idle] ++ enc p.t.ask.length ++ encs (p.t.ask.flatMap one1))]) (by (repeat (first | exact List.Sublist.refl _ | apply List.Sublist.cons_cons | apply List.Sublist.cons)))).step rfl⟩
  by_cases hk : p.kind = 3
  · have en : numsP p = [p.j1, p.j2, p.j3] := by unfold numsP; rw [if_neg (by omega), if_neg (by omega), if_pos hk]
    rw [en] at hnum
    have hl0 := encs_len [p.kind]
    have hl1 := encs_len [p.to]
    have hl2 := encs_len [p.j1, p.j2, p.j3]
    simp only [List.length_cons, List.length_nil] at hl0 hl1 hl2
    repeat'(first|(apply CW.reg_held (St w F [rdA (some ⟨bp, 0, none⟩) (p.cells A), rdA A.da (bv p.d.msg.body), rdA A.ta (p.t.ask.flatMap ivF), rdA A.ca (p.c.ents.flatMap Ent.cells)]))|(apply Go.Hb.kK;(iterate 4 exact rfl);intro bs)|refine kv' ?_|apply jJ|refine jE' ?_|refine jp' ?_|(apply jc;kernel_rfl)|refine kg' ?_|refine kG' ?_|refine kB' fun _=>?_|refine kA' fun _=>?_|refine kK' fun _=>?_|refine kU' ?_|(apply kq; (· exact rfl); (· intro w1 h1; exact CallsTo.q (p88 p.kind 1 5 w1) h1))|(apply LR.ev; (· apply Ev.load (v := .int .i64 0); (· exact rfl); (· exact fun w' hw' => wC_e (hw'.holds (wC bc bw _ _ _) (by (repeat (first | exact mH _ _ | apply mT)))))); (· exact rfl))|(apply LR.ev; (· apply Ev.load (v := .int .i64 p.kind); (· exact rfl); (· exact fun w' hw' => (hw'.rd_of (a := some ⟨bp, 0, none⟩) (xs := p.cells A) (by (repeat (first | exact mH _ _ | apply mT)))).cell (j := 0) rfl)); (· exact rfl))|(apply LR.call; (· exact rfl); (intro w1 h1; first | (refine (p87w bc bw _ _ (l) bs [(⟨bp, 0, p.kind⟩ : PV)] w1 (h1.holds (wC bc bw _ _ (l)) (by (repeat (first | exact mH _ _ | apply mT)))) (h1.rd_of_blk (by (repeat (first | exact mH _ _ | apply mT)))) (pvIn_of (h1.rd_of (a := some ⟨bp, 0, none⟩) (xs := p.cells A) (by (repeat (first | exact mH _ _ | apply mT)))) (by refine ⟨⟨rfl, rfl⟩, ?_⟩; exact trivial)) (fun q hq => by (have e : q.b = bp := (pvIn_all (b := bp) (l := p.cells A) (qs := [(⟨bp, 0, p.kind⟩ : PV)]) (by refine ⟨⟨rfl, rfl⟩, ?_⟩; exact trivial) q hq).1); rw [e]; exact pk_apart h1 (.inl (by (repeat (first | exact List.Sublist.refl _ | apply List.Sublist.cons_cons | apply List.Sublist.cons))))) (St.apart2 (x := .own bs (.cells _ 114 (0, 0))) h1 (.inl (by (repeat (first | exact List.Sublist.refl _ | apply List.Sublist.cons_cons | apply List.Sublist.cons)))) rfl bs rfl) (fun q hq => by simp only [List.mem_cons, List.not_mem_nil, or_false] at hq; rcases hq with rfl <;> first | exact hok.1 | exact hok.2.1 | exact hnum _ (by simp)) (by (try simp only [List.length_append]); omega) (by simp)).mono ?_; rintro v w2 ⟨_, _, rfl, st⟩; refine LR.back (St.did h1 (by (repeat (first | exact sH _ _ _ | apply sT))) rfl st (wC_dep _ _ _ _ _)) ?_; clear st h1) | (refine (p87w bc bw _ _ (l ++ encs [p.kind]) bs [(⟨bp, 1, p.to⟩ : PV)] w1 (h1.holds (wC bc bw _ _ (l ++ encs [p.kind])) (by (repeat (first | exact mH _ _ | apply mT)))) (h1.rd_of_blk (by (repeat (first | exact mH _ _ | apply mT)))) (pvIn_of (h1.rd_of (a := some ⟨bp, 0, none⟩) (xs := p.cells A) (by (repeat (first | exact mH _ _ | apply mT)))) (by refine ⟨⟨rfl, rfl⟩, ?_⟩; exact trivial)) (fun q hq => by (have e : q.b = bp := (pvIn_all (b := bp) (l := p.cells A) (qs := [(⟨bp, 1, p.to⟩ : PV)]) (by refine ⟨⟨rfl, rfl⟩, ?_⟩; exact trivial) q hq).1); rw [e]; exact pk_apart h1 (.inl (by (repeat (first | exact List.Sublist.refl _ | apply List.Sublist.cons_cons | apply List.Sublist.cons))))) (St.apart2 (x := .own bs (.cells _ 114 (0, 0))) h1 (.inl (by (repeat (first | exact List.Sublist.refl _ | apply List.Sublist.cons_cons | apply List.Sublist.cons)))) rfl bs rfl) (fun q hq => by simp only [List.mem_cons, List.not_mem_nil, or_false] at hq; rcases hq with rfl <;> first | exact hok.1 | exact hok.2.1 | exact hnum _ (by simp)) (by (try simp only [List.length_append]); omega) (by simp)).mono ?_; rintro v w2 ⟨_, _, rfl, st⟩; refine LR.back (St.did h1 (by (repeat (first | exact sH _ _ _ | apply sT))) rfl st (wC_dep _ _ _ _ _)) ?_; clear st h1)))|((first|refine kR' ?_ ?_|refine kQ' ?_ ?_);all_goals(intro hc;try simp only[hcs]at hc;try(exfalso;first|contradiction|omega))))
    all_goals (
      apply DW.quiet [0, 1, 2, 3, 4, 5, 6, 7, 8, 9, 10, 11, 12]
      · decide +kernel
      · first | exact fun _ h => h | exact fun _ h => St.sub h (by repeat (first | exact List.Sublist.refl _ | apply List.Sublist.cons_cons | apply List.Sublist.cons))
      repeat'(first|refine yv' ?_|refine uv' ?_|refine un' ?_|(refine us' ?_ ?_;all_goals(intro hc;try simp only[hcs]at hc;try(exfalso;first|contradiction|omega)))|apply QL.nil)
      all_goals (show DW _ _ _ _ _ _ _ _))
    all_goals (
      apply DW.loud 13
      · exact rfl
      · decide +kernel
      repeat'(first|(apply Go.Hb.kK;(iterate 4 exact rfl);intro bs)|refine kg' ?_|refine kG' ?_|apply kM|refine kv' ?_|refine kK' fun _=>?_|refine kU' ?_|refine kB' fun _=>?_|refine kA' fun _=>?_|(apply LR.call; (· exact rfl); (intro w1 h1; (refine (p87w bc bw _ _ (l ++ encs [p.kind] ++ encs [p.to]) bs [(⟨bp, 29, p.j1⟩ : PV), (⟨bp, 30, p.j2⟩ : PV), (⟨bp, 31, p.j3⟩ : PV)] w1 (h1.holds (wC bc bw _ _ (l ++ encs [p.kind] ++ encs [p.to])) (by (repeat (first | exact mH _ _ | apply mT)))) (h1.rd_of_blk (by (repeat (first | exact mH _ _ | apply mT)))) (pvIn_of (h1.rd_of (a := some ⟨bp, 0, none⟩) (xs := p.cells A) (by (repeat (first | exact mH _ _ | apply mT)))) (by refine ⟨⟨rfl, rfl⟩, ?_⟩; refine ⟨⟨rfl, rfl⟩, ?_⟩; refine ⟨⟨rfl, rfl⟩, ?_⟩; exact trivial)) (fun q hq => by (have e : q.b = bp := (pvIn_all (b := bp) (l := p.cells A) (qs := [(⟨bp, 29, p.j1⟩ : PV), (⟨bp, 30, p.j2⟩ : PV), (⟨bp, 31, p.j3⟩ : PV)]) (by refine ⟨⟨rfl, rfl⟩, ?_⟩; refine ⟨⟨rfl, rfl⟩, ?_⟩; refine ⟨⟨rfl, rfl⟩, ?_⟩; exact trivial) q hq).1); rw [e]; exact pk_apart h1 (.inl (by (repeat (first | exact List.Sublist.refl _ | apply List.Sublist.cons_cons | apply List.Sublist.cons))))) (St.apart2 (x := .own bs (.cells _ 114 (0, 0))) h1 (.inl (by (repeat (first | exact List.Sublist.refl _ | apply List.Sublist.cons_cons | apply List.Sublist.cons)))) rfl bs rfl) (fun q hq => by simp only [List.mem_cons, List.not_mem_nil, or_false] at hq; rcases hq with rfl | rfl | rfl <;> first | exact hok.1 | exact hok.2.1 | exact hnum _ (by simp)) (by (try simp only [List.length_append]); omega) (by simp)).mono ?_; rintro v w2 ⟨_, _, rfl, st⟩; refine LR.back (St.did h1 (by (repeat (first | exact sH _ _ _ | apply sT))) rfl st (wC_dep _ _ _ _ _)) ?_; clear st h1))))
      all_goals (refine At.stage_same (fun _ h => St.sub h (by repeat (first | exact List.Sublist.refl _ | apply List.Sublist.cons_cons | apply List.Sublist.cons))) ?_))
    all_goals (
      apply DW.loud 14
      · exact rfl
      · decide +kernel
      repeat'(first|(apply Go.Hb.kK;(iterate 4 exact rfl);intro bs)|refine kg' ?_|refine kG' ?_|apply kM|refine kv' ?_|refine kK' fun _=>?_|refine kU' ?_|refine kB' fun _=>?_|refine kA' fun _=>?_|(apply LR.call; (· exact rfl); (intro w1 h1; (refine (p87w bc bw _ _ (l ++ encs [p.kind] ++ encs [p.to]) bs [(⟨bp, 29, p.j1⟩ : PV), (⟨bp, 30, p.j2⟩ : PV), (⟨bp, 31, p.j3⟩ : PV)] w1 (h1.holds (wC bc bw _ _ (l ++ encs [p.kind] ++ encs [p.to])) (by (repeat (first | exact mH _ _ | apply mT)))) (h1.rd_of_blk (by (repeat (first | exact mH _ _ | apply mT)))) (pvIn_of (h1.rd_of (a := some ⟨bp, 0, none⟩) (xs := p.cells A) (by (repeat (first | exact mH _ _ | apply mT)))) (by refine ⟨⟨rfl, rfl⟩, ?_⟩; refine ⟨⟨rfl, rfl⟩, ?_⟩; refine ⟨⟨rfl, rfl⟩, ?_⟩; exact trivial)) (fun q hq => by (have e : q.b = bp := (pvIn_all (b := bp) (l := p.cells A) (qs := [(⟨bp, 29, p.j1⟩ : PV), (⟨bp, 30, p.j2⟩ : PV), (⟨bp, 31, p.j3⟩ : PV)]) (by refine ⟨⟨rfl, rfl⟩, ?_⟩; refine ⟨⟨rfl, rfl⟩, ?_⟩; refine ⟨⟨rfl, rfl⟩, ?_⟩; exact trivial) q hq).1); rw [e]; exact pk_apart h1 (.inl (by (repeat (first | exact List.Sublist.refl _ | apply List.Sublist.cons_cons | apply List.Sublist.cons))))) (St.apart2 (x := .own bs (.cells _ 114 (0, 0))) h1 (.inl (by (repeat (first | exact List.Sublist.refl _ | apply List.Sublist.cons_cons | apply List.Sublist.cons)))) rfl bs rfl) (fun q hq => by simp only [List.mem_cons, List.not_mem_nil, or_false] at hq; rcases hq with rfl | rfl | rfl <;> first | exact hok.1 | exact hok.2.1 | exact hnum _ (by simp)) (by (try simp only [List.length_append]); omega) (by simp)).mono ?_; rintro v w2 ⟨_, _, rfl, st⟩; refine LR.back (St.did h1 (by (repeat (first | exact sH _ _ _ | apply sT))) rfl st (wC_dep _ _ _ _ _)) ?_; clear st h1))))
      all_goals (refine At.stage_same (fun _ h => St.sub h (by repeat (first | exact List.Sublist.refl _ | apply List.Sublist.cons_cons | apply List.Sublist.cons))) ?_))
    all_goals (first | (apply DW.done_thn; (· decide +kernel)) | (apply DW.done; (· decide +kernel)))
    repeat'(first|refine kv' ?_|apply jJ|refine jE' ?_|refine jp' ?_|(apply jc;kernel_rfl)|refine kg' ?_|refine kG' ?_|refine kB' fun _=>?_|refine kA' fun _=>?_|refine kK' fun _=>?_|refine kU' ?_|((first|refine kR' ?_ ?_|refine kQ' ?_ ?_);all_goals(intro hc;try simp only[hcs]at hc;try(exfalso;first|contradiction|omega))))
    apply end0
    · exact rfl
    intro w' hS
    have e9 : l ++ bodyP p = l ++ encs [p.kind] ++ encs [p.to] ++ encs [p.j1, p.j2, p.j3] := by
      unfold bodyP tailP
      rw [en, if_neg (by omega), if_neg (by omega), if_neg (by omega)]
      rw [show [p.kind, p.to] = [p.kind] ++ [p.to] from rfl, show [p.j1, p.j2, p.j3] = [p.j1, p.j2, p.j3] from rfl]
      simp only [encs_app, List.append_assoc, List.append_nil]
    subst hF
    rw [e9]
    exact ⟨_, _, rfl, (hS.sub (L' := [wC bc bw _ _ (l ++ encs [p.kind] ++ encs [p.to] ++ encs [p.j1, p.j2, p.j3])]) (by (repeat (first | exact List.Sublist.refl _ | apply List.Sublist.cons_cons | apply List.Sublist.cons)))).step rfl⟩
  by_cases hk : p.kind = 4
  · have en : numsP p = [p.c.r1, p.c.r2, p.c.mem, p.c.hop] := by unfold numsP; rw [if_neg (by omega), if_neg (by omega), if_neg (by omega), if_pos hk]
    rw [en] at hnum
    have hl0 := encs_len [p.kind]
    have hl1 := encs_len [p.to]
    have hl2 := encs_len [p.c.r1, p.c.r2]
    have hl3 := encs_len [p.c.mem, p.c.hop]
    simp only [List.length_cons, List.length_nil] at hl0 hl1 hl2 hl3
    repeat'(first|(apply CW.reg_held (St w F [rdA (some ⟨bp, 0, none⟩) (p.cells A), rdA A.da (bv p.d.msg.body), rdA A.ta (p.t.ask.flatMap ivF), rdA A.ca (p.c.ents.flatMap Ent.cells)]))|(apply Go.Hb.kK;(iterate 4 exact rfl);intro bs)|refine kv' ?_|apply jJ|refine jE' ?_|refine jp' ?_|(apply jc;kernel_rfl)|refine kg' ?_|refine kG' ?_|refine kB' fun _=>?_|refine kA' fun _=>?_|refine kK' fun _=>?_|refine kU' ?_|(apply kq; (· exact rfl); (· intro w1 h1; exact CallsTo.q (p88 p.kind 1 5 w1) h1))|(apply LR.ev; (· apply Ev.load (v := .int .i64 0); (· exact rfl); (· exact fun w' hw' => wC_e (hw'.holds (wC bc bw _ _ _) (by (repeat (first | exact mH _ _ | apply mT)))))); (· exact rfl))|(apply LR.ev; (· apply Ev.load (v := .int .i64 p.kind); (· exact rfl); (· exact fun w' hw' => (hw'.rd_of (a := some ⟨bp, 0, none⟩) (xs := p.cells A) (by (repeat (first | exact mH _ _ | apply mT)))).cell (j := 0) rfl)); (· exact rfl))|(apply LR.call; (· exact rfl); (intro w1 h1; first | (refine (p87w bc bw _ _ (l) bs [(⟨bp, 0, p.kind⟩ : PV)] w1 (h1.holds (wC bc bw _ _ (l)) (by (repeat (first | exact mH _ _ | apply mT)))) (h1.rd_of_blk (by (repeat (first | exact mH _ _ | apply mT)))) (pvIn_of (h1.rd_of (a := some ⟨bp, 0, none⟩) (xs := p.cells A) (by (repeat (first | exact mH _ _ | apply mT)))) (by refine ⟨⟨rfl, rfl⟩, ?_⟩; exact trivial)) (fun q hq => by (have e : q.b = bp := (pvIn_all (b := bp) (l := p.cells A) (qs := [(⟨bp, 0, p.kind⟩ : PV)]) (by refine ⟨⟨rfl, rfl⟩, ?_⟩; exact trivial) q hq).1); rw [e]; exact pk_apart h1 (.inl (by (repeat (first | exact List.Sublist.refl _ | apply List.Sublist.cons_cons | apply List.Sublist.cons))))) (St.apart2 (x := .own bs (.cells _ 114 (0, 0))) h1 (.inl (by (repeat (first | exact List.Sublist.refl _ | apply List.Sublist.cons_cons | apply List.Sublist.cons)))) rfl bs rfl) (fun q hq => by simp only [List.mem_cons, List.not_mem_nil, or_false] at hq; rcases hq with rfl <;> first | exact hok.1 | exact hok.2.1 | exact hnum _ (by simp)) (by (try simp only [List.length_append]); omega) (by simp)).mono ?_; rintro v w2 ⟨_, _, rfl, st⟩; refine LR.back (St.did h1 (by (repeat (first | exact sH _ _ _ | apply sT))) rfl st (wC_dep _ _ _ _ _)) ?_; clear st h1) | (refine (p87w bc bw _ _ (l ++ encs [p.kind]) bs [(⟨bp, 1, p.to⟩ : PV)] w1 (h1.holds (wC bc bw _ _ (l ++ encs [p.kind])) (by (repeat (first | exact mH _ _ | apply mT)))) (h1.rd_of_blk (by (repeat (first | exact mH _ _ | apply mT)))) (pvIn_of (h1.rd_of (a := some ⟨bp, 0, none⟩) (xs := p.cells A) (by (repeat (first | exact mH _ _ | apply mT)))) (by refine ⟨⟨rfl, rfl⟩, ?_⟩; exact trivial)) (fun q hq => by (have e : q.b = bp := (pvIn_all (b := bp) (l := p.cells A) (qs := [(⟨bp, 1, p.to⟩ : PV)]) (by refine ⟨⟨rfl, rfl⟩, ?_⟩; exact trivial) q hq).1); rw [e]; exact pk_apart h1 (.inl (by (repeat (first | exact List.Sublist.refl _ | apply List.Sublist.cons_cons | apply List.Sublist.cons))))) (St.apart2 (x := .own bs (.cells _ 114 (0, 0))) h1 (.inl (by (repeat (first | exact List.Sublist.refl _ | apply List.Sublist.cons_cons | apply List.Sublist.cons)))) rfl bs rfl) (fun q hq => by simp only [List.mem_cons, List.not_mem_nil, or_false] at hq; rcases hq with rfl <;> first | exact hok.1 | exact hok.2.1 | exact hnum _ (by simp)) (by (try simp only [List.length_append]); omega) (by simp)).mono ?_; rintro v w2 ⟨_, _, rfl, st⟩; refine LR.back (St.did h1 (by (repeat (first | exact sH _ _ _ | apply sT))) rfl st (wC_dep _ _ _ _ _)) ?_; clear st h1) | (refine (p89w bc bw _ _ (l ++ encs [p.kind] ++ encs [p.to]) bp 32 p.c.r1 p.c.r2 w1 (h1.holds (wC bc bw _ _ (l ++ encs [p.kind] ++ encs [p.to])) (by (repeat (first | exact mH _ _ | apply mT)))) (pvIn_of (h1.rd_of (a := some ⟨bp, 0, none⟩) (xs := p.cells A) (by (repeat (first | exact mH _ _ | apply mT)))) (by refine ⟨⟨rfl, rfl⟩, ?_⟩; refine ⟨⟨rfl, rfl⟩, ?_⟩; exact trivial)) (fun q hq => by simp only [List.mem_cons, List.not_mem_nil, or_false] at hq; rcases hq with rfl | rfl <;> exact pk_apart h1 (.inl (by (repeat (first | exact List.Sublist.refl _ | apply List.Sublist.cons_cons | apply List.Sublist.cons))))) (hnum _ (by simp)) (hnum _ (by simp)) (by (try simp only [List.length_append]); omega)).mono ?_; rintro v w2 ⟨_, _, rfl, st⟩; refine LR.back (St.did h1 (by (repeat (first | exact sH _ _ _ | apply sT))) rfl st (wC_dep _ _ _ _ _)) ?_; clear st h1)))|((first|refine kR' ?_ ?_|refine kQ' ?_ ?_);all_goals(intro hc;try simp only[hcs]at hc;try(exfalso;first|contradiction|omega))))
    all_goals (
      apply DW.quiet [0, 1, 2, 3, 4, 5, 6]
      · decide +kernel
      · first | exact fun _ h => h | exact fun _ h => St.sub h (by repeat (first | exact List.Sublist.refl _ | apply List.Sublist.cons_cons | apply List.Sublist.cons))
      repeat'(first|refine yv' ?_|refine uv' ?_|refine un' ?_|(refine us' ?_ ?_;all_goals(intro hc;try simp only[hcs]at hc;try(exfalso;first|contradiction|omega)))|apply QL.nil)
      all_goals (show DW _ _ _ _ _ _ _ _))
    all_goals (
      apply DW.loud 7
      · exact rfl
      · decide +kernel
      repeat'(first|(apply Go.Hb.kK;(iterate 4 exact rfl);intro bs)|refine kg' ?_|refine kG' ?_|apply kM|refine kv' ?_|refine kK' fun _=>?_|refine kU' ?_|refine kB' fun _=>?_|refine kA' fun _=>?_|(apply LR.call; (· exact rfl); (intro w1 h1; (refine (p87w bc bw _ _ (l ++ encs [p.kind] ++ encs [p.to] ++ encs [p.c.r1, p.c.r2]) bs [(⟨bp, 34, p.c.mem⟩ : PV), (⟨bp, 35, p.c.hop⟩ : PV)] w1 (h1.holds (wC bc bw _ _ (l ++ encs [p.kind] ++ encs [p.to] ++ encs [p.c.r1, p.c.r2])) (by (repeat (first | exact mH _ _ | apply mT)))) (h1.rd_of_blk (by (repeat (first | exact mH _ _ | apply mT)))) (pvIn_of (h1.rd_of (a := some ⟨bp, 0, none⟩) (xs := p.cells A) (by (repeat (first | exact mH _ _ | apply mT)))) (by refine ⟨⟨rfl, rfl⟩, ?_⟩; refine ⟨⟨rfl, rfl⟩, ?_⟩; exact trivial)) (fun q hq => by (have e : q.b = bp := (pvIn_all (b := bp) (l := p.cells A) (qs := [(⟨bp, 34, p.c.mem⟩ : PV), (⟨bp, 35, p.c.hop⟩ : PV)]) (by refine ⟨⟨rfl, rfl⟩, ?_⟩; refine ⟨⟨rfl, rfl⟩, ?_⟩; exact trivial) q hq).1); rw [e]; exact pk_apart h1 (.inl (by (repeat (first | exact List.Sublist.refl _ | apply List.Sublist.cons_cons | apply List.Sublist.cons))))) (St.apart2 (x := .own bs (.cells _ 114 (0, 0))) h1 (.inl (by (repeat (first | exact List.Sublist.refl _ | apply List.Sublist.cons_cons | apply List.Sublist.cons)))) rfl bs rfl) (fun q hq => by simp only [List.mem_cons, List.not_mem_nil, or_false] at hq; rcases hq with rfl | rfl <;> first | exact hok.1 | exact hok.2.1 | exact hnum _ (by simp)) (by (try simp only [List.length_append]); omega) (by simp)).mono ?_; rintro v w2 ⟨_, _, rfl, st⟩; refine LR.back (St.did h1 (by (repeat (first | exact sH _ _ _ | apply sT))) rfl st (wC_dep _ _ _ _ _)) ?_; clear st h1))))
      all_goals (refine At.stage_same (fun _ h => St.sub h (by repeat (first | exact List.Sublist.refl _ | apply List.Sublist.cons_cons | apply List.Sublist.cons))) ?_))
    all_goals (
      apply DW.loud 8
      · exact rfl
      · decide +kernel
      repeat'(first|(apply Go.Hb.kK;(iterate 4 exact rfl);intro bs)|refine kg' ?_|refine kG' ?_|apply kM|refine kv' ?_|refine kK' fun _=>?_|refine kU' ?_|refine kB' fun _=>?_|refine kA' fun _=>?_|(apply LR.call; (· exact rfl); (intro w1 h1; (refine (p87w bc bw _ _ (l ++ encs [p.kind] ++ encs [p.to] ++ encs [p.c.r1, p.c.r2]) bs [(⟨bp, 34, p.c.mem⟩ : PV), (⟨bp, 35, p.c.hop⟩ : PV)] w1 (h1.holds (wC bc bw _ _ (l ++ encs [p.kind] ++ encs [p.to] ++ encs [p.c.r1, p.c.r2])) (by (repeat (first | exact mH _ _ | apply mT)))) (h1.rd_of_blk (by (repeat (first | exact mH _ _ | apply mT)))) (pvIn_of (h1.rd_of (a := some ⟨bp, 0, none⟩) (xs := p.cells A) (by (repeat (first | exact mH _ _ | apply mT)))) (by refine ⟨⟨rfl, rfl⟩, ?_⟩; refine ⟨⟨rfl, rfl⟩, ?_⟩; exact trivial)) (fun q hq => by (have e : q.b = bp := (pvIn_all (b := bp) (l := p.cells A) (qs := [(⟨bp, 34, p.c.mem⟩ : PV), (⟨bp, 35, p.c.hop⟩ : PV)]) (by refine ⟨⟨rfl, rfl⟩, ?_⟩; refine ⟨⟨rfl, rfl⟩, ?_⟩; exact trivial) q hq).1); rw [e]; exact pk_apart h1 (.inl (by (repeat (first | exact List.Sublist.refl _ | apply List.Sublist.cons_cons | apply List.Sublist.cons))))) (St.apart2 (x := .own bs (.cells _ 114 (0, 0))) h1 (.inl (by (repeat (first | exact List.Sublist.refl _ | apply List.Sublist.cons_cons | apply List.Sublist.cons)))) rfl bs rfl) (fun q hq => by simp only [List.mem_cons, List.not_mem_nil, or_false] at hq; rcases hq with rfl | rfl <;> first | exact hok.1 | exact hok.2.1 | exact hnum _ (by simp)) (by (try simp only [List.length_append]); omega) (by simp)).mono ?_; rintro v w2 ⟨_, _, rfl, st⟩; refine LR.back (St.did h1 (by (repeat (first | exact sH _ _ _ | apply sT))) rfl st (wC_dep _ _ _ _ _)) ?_; clear st h1))))
      all_goals (refine At.stage_same (fun _ h => St.sub h (by repeat (first | exact List.Sublist.refl _ | apply List.Sublist.cons_cons | apply List.Sublist.cons))) ?_))
    all_goals (first | (apply DW.done_thn; (· decide +kernel)) | (apply DW.done; (· decide +kernel)))
    repeat'(first|refine kv' ?_|apply jJ|refine jE' ?_|refine jp' ?_|(apply jc;kernel_rfl)|refine kg' ?_|refine kG' ?_|refine kB' fun _=>?_|refine kA' fun _=>?_|refine kK' fun _=>?_|refine kU' ?_|(apply LR.call; (· exact rfl); (intro w1 h1; first | (refine (p93w bc bw _ _ (l ++ encs [p.kind] ++ encs [p.to] ++ encs [p.c.r1, p.c.r2] ++ encs [p.c.mem, p.c.hop]) bp 36 A.ca A.cc p.c.ents 8 w1 (h1.holds (wC bc bw _ _ (l ++ encs [p.kind] ++ encs [p.to] ++ encs [p.c.r1, p.c.r2] ++ encs [p.c.mem, p.c.hop])) (by (repeat (first | exact mH _ _ | apply mT)))) (atL_of (h1.rd_of (a := some ⟨bp, 0, none⟩) (xs := p.cells A) (by (repeat (first | exact mH _ _ | apply mT)))) rfl) (h1.rd_of (a := A.ca) (xs := p.c.ents.flatMap Ent.cells) (by (repeat (first | exact mH _ _ | apply mT)))) (pk_apart h1 (.inl (by (repeat (first | exact List.Sublist.refl _ | apply List.Sublist.cons_cons | apply List.Sublist.cons))))) (rd_apart h1 (.inl (by (repeat (first | exact List.Sublist.refl _ | apply List.Sublist.cons_cons | apply List.Sublist.cons))))) (may_ents hm hk).2 (by (try simp only [List.length_append]); omega) (by have := (may_ents hm hk).1; omega) (by omega)).mono ?_; rintro v w2 ⟨_, _, rfl, st⟩; refine LR.back (St.did h1 (by (repeat (first | exact sH _ _ _ | apply sT))) rfl st (wC_dep _ _ _ _ _)) ?_; clear st h1)))|((first|refine kR' ?_ ?_|refine kQ' ?_ ?_);all_goals(intro hc;try simp only[hcs]at hc;try(exfalso;first|contradiction|omega))))
    apply end0
    · exact rfl
    intro w' hS
    have e9 : l ++ bodyP p = l ++ encs [p.kind] ++ encs [p.to] ++ encs [p.c.r1, p.c.r2] ++ encs [p.c.mem, p.c.hop] ++ enc p.c.ents.length ++ encs (p.c.ents.flatMap Ent.nums) := by
      unfold bodyP tailP
      rw [en, if_neg (by omega), if_neg (by omega), if_pos hk]
      rw [show [p.kind, p.to] = [p.kind] ++ [p.to] from rfl, show [p.c.r1, p.c.r2, p.c.mem, p.c.hop] = [p.c.r1, p.c.r2] ++ [p.c.mem, p.c.hop] from rfl]
      simp only [encs_app, List.append_assoc, List.append_nil]
    subst hF
    rw [e9]
    exact ⟨_, _, rfl, (hS.sub (L' := [wC bc bw _ _ (l ++ encs [p.kind] ++ encs [p.to] ++ encs [p.c.r1, p.c.r2] ++ encs [p.c.mem, p.c.hop] ++ enc p.c.ents.length ++ encs (p.c.ents.flatMap Ent.nums))]) (by (repeat (first | exact List.Sublist.refl _ | apply List.Sublist.cons_cons | apply List.Sublist.cons)))).step rfl⟩
  have hk : p.kind = 5 := by omega
  have en : numsP p = [p.b1, p.b2, p.b3] := by unfold numsP; rw [if_neg (by omega), if_neg (by omega), if_neg (by omega), if_neg (by omega)]
  rw [en] at hnum
  have hl0 := encs_len [p.kind]
  have hl1 := encs_len [p.to]
  have hl2 := encs_len [p.b1, p.b2]
  have hl3 := encs_len [p.b3]
  simp only [List.length_cons, List.length_nil] at hl0 hl1 hl2 hl3
  repeat'(first|(apply CW.reg_held (St w F [rdA (some ⟨bp, 0, none⟩) (p.cells A), rdA A.da (bv p.d.msg.body), rdA A.ta (p.t.ask.flatMap ivF), rdA A.ca (p.c.ents.flatMap Ent.cells)]))|(apply Go.Hb.kK;(iterate 4 exact rfl);intro bs)|refine kv' ?_|apply jJ|refine jE' ?_|refine jp' ?_|(apply jc;kernel_rfl)|refine kg' ?_|refine kG' ?_|refine kB' fun _=>?_|refine kA' fun _=>?_|refine kK' fun _=>?_|refine kU' ?_|(apply kq; (· exact rfl); (· intro w1 h1; exact CallsTo.q (p88 p.kind 1 5 w1) h1))|(apply LR.ev; (· apply Ev.load (v := .int .i64 0); (· exact rfl); (· exact fun w' hw' => wC_e (hw'.holds (wC bc bw _ _ _) (by (repeat (first | exact mH _ _ | apply mT)))))); (· exact rfl))|(apply LR.ev; (· apply Ev.load (v := .int .i64 p.kind); (· exact rfl); (· exact fun w' hw' => (hw'.rd_of (a := some ⟨bp, 0, none⟩) (xs := p.cells A) (by (repeat (first | exact mH _ _ | apply mT)))).cell (j := 0) rfl)); (· exact rfl))|(apply LR.call; (· exact rfl); (intro w1 h1; first | (refine (p87w bc bw _ _ (l) bs [(⟨bp, 0, p.kind⟩ : PV)] w1 (h1.holds (wC bc bw _ _ (l)) (by (repeat (first | exact mH _ _ | apply mT)))) (h1.rd_of_blk (by (repeat (first | exact mH _ _ | apply mT)))) (pvIn_of (h1.rd_of (a := some ⟨bp, 0, none⟩) (xs := p.cells A) (by (repeat (first | exact mH _ _ | apply mT)))) (by refine ⟨⟨rfl, rfl⟩, ?_⟩; exact trivial)) (fun q hq => by (have e : q.b = bp := (pvIn_all (b := bp) (l := p.cells A) (qs := [(⟨bp, 0, p.kind⟩ : PV)]) (by refine ⟨⟨rfl, rfl⟩, ?_⟩; exact trivial) q hq).1); rw [e]; exact pk_apart h1 (.inl (by (repeat (first | exact List.Sublist.refl _ | apply List.Sublist.cons_cons | apply List.Sublist.cons))))) (St.apart2 (x := .own bs (.cells _ 114 (0, 0))) h1 (.inl (by (repeat (first | exact List.Sublist.refl _ | apply List.Sublist.cons_cons | apply List.Sublist.cons)))) rfl bs rfl) (fun q hq => by simp only [List.mem_cons, List.not_mem_nil, or_false] at hq; rcases hq with rfl <;> first | exact hok.1 | exact hok.2.1 | exact hnum _ (by simp)) (by (try simp only [List.length_append]); omega) (by simp)).mono ?_; rintro v w2 ⟨_, _, rfl, st⟩; refine LR.back (St.did h1 (by (repeat (first | exact sH _ _ _ | apply sT))) rfl st (wC_dep _ _ _ _ _)) ?_; clear st h1) | (refine (p87w bc bw _ _ (l ++ encs [p.kind]) bs [(⟨bp, 1, p.to⟩ : PV)] w1 (h1.holds (wC bc bw _ _ (l ++ encs [p.kind])) (by (repeat (first | exact mH _ _ | apply mT)))) (h1.rd_of_blk (by (repeat (first | exact mH _ _ | apply mT)))) (pvIn_of (h1.rd_of (a := some ⟨bp, 0, none⟩) (xs := p.cells A) (by (repeat (first | exact mH _ _ | apply mT)))) (by refine ⟨⟨rfl, rfl⟩, ?_⟩; exact trivial)) (fun q hq => by (have e : q.b = bp := (pvIn_all (b := bp) (l := p.cells A) (qs := [(⟨bp, 1, p.to⟩ : PV)]) (by refine ⟨⟨rfl, rfl⟩, ?_⟩; exact trivial) q hq).1); rw [e]; exact pk_apart h1 (.inl (by (repeat (first | exact List.Sublist.refl _ | apply List.Sublist.cons_cons | apply List.Sublist.cons))))) (St.apart2 (x := .own bs (.cells _ 114 (0, 0))) h1 (.inl (by (repeat (first | exact List.Sublist.refl _ | apply List.Sublist.cons_cons | apply List.Sublist.cons)))) rfl bs rfl) (fun q hq => by simp only [List.mem_cons, List.not_mem_nil, or_false] at hq; rcases hq with rfl <;> first | exact hok.1 | exact hok.2.1 | exact hnum _ (by simp)) (by (try simp only [List.length_append]); omega) (by simp)).mono ?_; rintro v w2 ⟨_, _, rfl, st⟩; refine LR.back (St.did h1 (by (repeat (first | exact sH _ _ _ | apply sT))) rfl st (wC_dep _ _ _ _ _)) ?_; clear st h1) | (refine (p89w bc bw _ _ (l ++ encs [p.kind] ++ encs [p.to]) bp 37 p.b1 p.b2 w1 (h1.holds (wC bc bw _ _ (l ++ encs [p.kind] ++ encs [p.to])) (by (repeat (first | exact mH _ _ | apply mT)))) (pvIn_of (h1.rd_of (a := some ⟨bp, 0, none⟩) (xs := p.cells A) (by (repeat (first | exact mH _ _ | apply mT)))) (by refine ⟨⟨rfl, rfl⟩, ?_⟩; refine ⟨⟨rfl, rfl⟩, ?_⟩; exact trivial)) (fun q hq => by simp only [List.mem_cons, List.not_mem_nil, or_false] at hq; rcases hq with rfl | rfl <;> exact pk_apart h1 (.inl (by (repeat (first | exact List.Sublist.refl _ | apply List.Sublist.cons_cons | apply List.Sublist.cons))))) (hnum _ (by simp)) (hnum _ (by simp)) (by (try simp only [List.length_append]); omega)).mono ?_; rintro v w2 ⟨_, _, rfl, st⟩; refine LR.back (St.did h1 (by (repeat (first | exact sH _ _ _ | apply sT))) rfl st (wC_dep _ _ _ _ _)) ?_; clear st h1) | (refine (p87w bc bw _ _ (l ++ encs [p.kind] ++ encs [p.to] ++ encs [p.b1, p.b2]) bs [(⟨bp, 39, p.b3⟩ : PV)] w1 (h1.holds (wC bc bw _ _ (l ++ encs [p.kind] ++ encs [p.to] ++ encs [p.b1, p.b2])) (by (repeat (first | exact mH _ _ | apply mT)))) (h1.rd_of_blk (by (repeat (first | exact mH _ _ | apply mT)))) (pvIn_of (h1.rd_of (a := some ⟨bp, 0, none⟩) (xs := p.cells A) (by (repeat (first | exact mH _ _ | apply mT)))) (by refine ⟨⟨rfl, rfl⟩, ?_⟩; exact trivial)) (fun q hq => by (have e : q.b = bp := (pvIn_all (b := bp) (l := p.cells A) (qs := [(⟨bp, 39, p.b3⟩ : PV)]) (by refine ⟨⟨rfl, rfl⟩, ?_⟩; exact trivial) q hq).1); rw [e]; exact pk_apart h1 (.inl (by (repeat (first | exact List.Sublist.refl _ | apply List.Sublist.cons_cons | apply List.Sublist.cons))))) (St.apart2 (x := .own bs (.cells _ 114 (0, 0))) h1 (.inl (by (repeat (first | exact List.Sublist.refl _ | apply List.Sublist.cons_cons | apply List.Sublist.cons)))) rfl bs rfl) (fun q hq => by simp only [List.mem_cons, List.not_mem_nil, or_false] at hq; rcases hq with rfl <;> first | exact hok.1 | exact hok.2.1 | exact hnum _ (by simp)) (by (try simp only [List.length_append]); omega) (by simp)).mono ?_; rintro v w2 ⟨_, _, rfl, st⟩; refine LR.back (St.did h1 (by (repeat (first | exact sH _ _ _ | apply sT))) rfl st (wC_dep _ _ _ _ _)) ?_; clear st h1)))|((first|refine kR' ?_ ?_|refine kQ' ?_ ?_);all_goals(intro hc;try simp only[hcs]at hc;try(exfalso;first|contradiction|omega))))
  apply end0
  · exact rfl
  intro w' hS
  have e9 : l ++ bodyP p = l ++ encs [p.kind] ++ encs [p.to] ++ encs [p.b1, p.b2] ++ encs [p.b3] := by
    unfold bodyP tailP
    rw [en, if_neg (by omega), if_neg (by omega), if_neg (by omega)]
    rw [show [p.kind, p.to] = [p.kind] ++ [p.to] from rfl, show [p.b1, p.b2, p.b3] = [p.b1, p.b2] ++ [p.b3] from rfl]
    simp only [encs_app, List.append_assoc, List.append_nil]
  subst hF
  rw [e9]
  exact ⟨_, _, rfl, (hS.sub (L' := [wC bc bw _ _ (l ++ encs [p.kind] ++ encs [p.to] ++ encs [p.b1, p.b2] ++ encs [p.b3])]) (by (repeat (first | exact List.Sublist.refl _ | apply List.Sublist.cons_cons | apply List.Sublist.cons)))).step rfl⟩
end Go.Proofs.YtkolmkdbjagfcaaGreat

namespace Go.Proofs.YtkolmkdbjagfcaaGreat
open Go.Hb
attribute [local irreducible] LR CW At Ev thn blk finK noG again CallsTo DW QL dnext TW DP
set_option linter.unusedSimpArgs false
set_option linter.unusedVariables false
set_option maxRecDepth 100000

def packP (p : Pkt) : List Int × Int := if chkP p then (sealL (bodyP p), 0) else ([], 2)
theorem chk_may {p : Pkt} (h : chkP p = true) : mayP p = true ∧ shapeB p = wantK p.kind := by
  unfold chkP at h
  simpa using h
theorem may_kinds {p : Pkt} (h : mayP p = true) : p.kind = 1 ∨ p.kind = 2 ∨ p.kind = 3 ∨ p.kind = 4 ∨ p.kind = 5 := by
  have := (may_num h).2.2.1
  omega
theorem encsF_len {xs : List Ent} : (xs.flatMap Ent.nums).length = xs.length * 6 := rows_lenN ent_len xs
theorem nums_len (p : Pkt) : (numsP p).length ≤ 8 := by
  unfold numsP
  repeat' split
  all_goals simp
theorem body_len {p : Pkt} (h : mayP p = true) : (bodyP p).length ≤ 2000 := by
  unfold bodyP
  simp only [List.length_append]
  have h1 := encs_len [p.kind, p.to]
  have h2 := encs_len (numsP p)
  have h3 := nums_len p
  simp only [List.length_cons, List.length_nil] at h1
  have ht : (tailP p).length ≤ 1000 := by
    unfold tailP
    by_cases k1 : p.kind = 1
    · rw [if_pos k1, List.length_append]
      have h4 := bytesM_len p.d.msg
      have h5 := (check_ok (may_msg h k1)).1
      have h6 : (enc (bytesM p.d.msg).length).length ≤ 9 := encF_len 8 _
      omega
    rw [if_neg k1]
    by_cases k2 : p.kind = 2
    · rw [if_pos k2, List.length_append]
      have h4 := (may_ask h k2).1
      have h5 := encs_len p.t.ask
      have h6 : (enc p.t.ask.length).length ≤ 9 := encF_len 8 _
      omega
    rw [if_neg k2]
    by_cases k4 : p.kind = 4
    · rw [if_pos k4, List.length_append]
      have h4 := (may_ents h k4).1
      have h5 := encs_len (p.c.ents.flatMap Ent.nums)
      rw [encsF_len] at h5
      have h6 : (enc p.c.ents.length).length ≤ 9 := encF_len 8 _
      omega
    rw [if_neg k4]
    simp
  omega
theorem body_byt {p : Pkt} (h : mayP p = true) (hB : Byt p.d.msg.body) : Byt (bodyP p) := by
  obtain ⟨h1, h2, h3, h4⟩ := may_num h
  unfold bodyP
  refine Byt.append (Byt.append (encs_byt fun x hx => ?_) (encs_byt h4)) ?_
  · simp only [List.mem_cons, List.not_mem_nil, or_false] at hx
    rcases hx with rfl | rfl
    · exact h1
    · exact h2
  unfold tailP
  by_cases k1 : p.kind = 1
  · rw [if_pos k1]
    have h6 := may_msg h k1
    have h4 := bytesM_len p.d.msg
    have h5 := (check_ok h6).1
    exact Byt.append (enc_byt (by omega)) (hB.bytes h6)
  rw [if_neg k1]
  by_cases k2 : p.kind = 2
  · rw [if_pos k2]
    have h6 := may_ask h k2
    exact Byt.append (enc_byt (by omega)) (encs_byt h6.2)
  rw [if_neg k2]
  by_cases k4 : p.kind = 4
  · rw [if_pos k4]
    have h6 := may_ents h k4
    refine Byt.append (enc_byt (by omega)) (encs_byt fun x hx => ?_)
    obtain ⟨e, he, hx⟩ := List.mem_flatMap.1 hx
    exact h6.2 e he x hx
  rw [if_neg k4]
  intro x hx
  simp at hx
theorem pk_start {w w1 : World} {L : List Asrt} {bc bw : Nat} {a : Option Addr} {c : Nat} {l : List Int} {bp : Nat} {A : PAd} {p : Pkt} (h : St w NoF L w1) (hm : wC bc bw a c l ∈ L) (hp : Rd w1 (some ⟨bp, 0, none⟩) (p.cells A)) (hb : ¬ (wC bc bw a c l).foot bp) (hR : PktR w p A) :
    St w1 (wC bc bw a c l).foot [wC bc bw a c l, rdA (some ⟨bp, 0, none⟩) (p.cells A), rdA A.da (bv p.d.msg.body), rdA A.ta (p.t.ask.flatMap ivF), rdA A.ca (p.c.ents.flatMap Ent.cells)] w1 := by
  have hR1 := hR.old h
  have ht := hR1.ht
  have ht0 := hR.ht
  rw [iv_flat] at ht ht0
  have h0 := St.one (h.holds _ hm) (both_live (h.holds _ hm)) (wC_dep _ _ _ _ _)
  have h1 := h0.addRd hR1.hc (fun k hk => h.oldApart hm rfl hR.hc k hk)
  have h2 := h1.addRd ht (fun k hk => h.oldApart hm rfl ht0 k hk)
  have h3 := h2.addRd hR1.hd (fun k hk => h.oldApart hm rfl hR.hd k hk)
  have h4 := h3.addRd hp (fun k hk => by obtain ⟨_, _, e, rfl⟩ := hk; cases e; exact hb)
  exact front h4 4 rfl rfl
set_option maxHeartbeats 8000000 in
theorem p30 (p : Pkt) (A : PAd) (w : World) (hR : PktR w p A) (hI : PktI p) : CallsTo Tryz.prog 7 [p.val A] w fun v w' => ∃ a' c', v = .tuple [.slice a' (packP p).1.length c', .int .i64 (packP p).2].toArray ∧ NewSl w w' (.slice a' (packP p).1.length c') 5 1 (packP p).1.length (bv (packP p).1) := by
  refine go_in (n := 31) (St.refl _ NoF) Tryz.func7 rfl rfl ?_
  cases hck : chkP p
  · have e : packP p = ([], 2) := by unfold packP; rw [hck]; rfl
    repeat'(first|(apply kB;(iterate 2 exact rfl);intro b1)|refine kv' ?_|apply jJ|refine jE' ?_|refine jp' ?_|(apply jc;kernel_rfl)|refine kg' ?_|refine kG' ?_|refine kB' fun _=>?_|refine kA' fun _=>?_|refine kK' fun _=>?_|refine kU' ?_|(apply kq; (· exact rfl); (· intro w1 h1; have hq := CallsTo.q (p31 p A w1 (hR.old h1) hI) h1; rw [hck] at hq; exact hq))|((first|refine kR' ?_ ?_|refine kQ' ?_ ?_);all_goals(intro hc;try simp only[hcs]at hc;try(exfalso;first|contradiction|omega))))
    (apply ret2; (· exact rfl); intro w' hS)
    rw [e]
    exact ⟨none, 0, rfl, (hS.nilsl 5 1).toNew (mH _ _)⟩
  · have hm := (chk_may hck).1
    have hbl := body_len hm
    have hbb := body_byt hm hR.hdb
    have e : packP p = (sealL (bodyP p), 0) := by unfold packP; rw [hck]; rfl
    rw [e]
    repeat'(first|(apply kB;(iterate 2 exact rfl);intro b1)|refine kv' ?_|apply jJ|refine jE' ?_|refine jp' ?_|(apply jc;kernel_rfl)|refine kg' ?_|refine kG' ?_|refine kB' fun _=>?_|refine kA' fun _=>?_|refine kK' fun _=>?_|refine kU' ?_|(apply kq; (· exact rfl); (· intro w1 h1; have hq := CallsTo.q (p31 p A w1 (hR.old h1) hI) h1; rw [hck] at hq; exact hq))|((first|refine kR' ?_ ?_|refine kQ' ?_ ?_);all_goals(intro hc;try simp only[hcs]at hc;try(exfalso;first|contradiction|omega))))
    apply LR.call
    · exact rfl
    intro w1 h1
    refine CallsTo.mono (show CallsTo Tryz.prog 25 [] w1 _ from c53 w1) ?_
    rintro v w2 ⟨bw, rfl, hn⟩
    refine LR.back (h1.got hn (wrA_dep _ _ _ _)) ?_
    clear hn h1
    repeat'(first|(apply kB;(iterate 2 exact rfl);intro bc)|refine kv' ?_|apply jJ|refine jE' ?_|refine jp' ?_|(apply jc;kernel_rfl)|refine kg' ?_|refine kG' ?_|refine kB' fun _=>?_|refine kA' fun _=>?_|refine kK' fun _=>?_|refine kU' ?_|((first|refine kR' ?_ ?_|refine kQ' ?_ ?_);all_goals(intro hc;try simp only[hcs]at hc;try(exfalso;first|contradiction|omega))))
    apply LR.call
    · exact rfl
    intro w1 h1
    have h2 : St w NoF [wC bc bw none 0 [], .own b1 (.cells (p.cells A).toArray 42 (0, 0))] w1 := St.join (x := codB bc (some ⟨bw, 0, none⟩) none 0) h1 rfl rfl
    refine CallsTo.mono (show CallsTo Tryz.prog 26 [.pointer (some ⟨bc, 0, none⟩), .pointer (some ⟨b1, 0, none⟩)] w1 _ from p55w bc bw none 0 [] b1 A p w1 (pk_start h2 (mH _ _) (h2.rd_of_blk (by (repeat (first | exact mH _ _ | apply mT)))) (fun hf => St.apart2 (x := wC bc bw none 0 []) (y := .own b1 (.cells (p.cells A).toArray 42 (0, 0))) h2 (.inl (by (repeat (first | exact List.Sublist.refl _ | apply List.Sublist.cons_cons | apply List.Sublist.cons)))) rfl b1 hf rfl) hR) hR.hdz hR.hdb hm (by simp)) ?_
    rintro v w2 ⟨a2, c2, rfl, st⟩
    rw [List.nil_append] at st
    refine LR.back (St.did h2 (by (repeat (first | exact sH _ _ _ | apply sT))) rfl st (wC_dep _ _ _ _ _)) ?_
    clear st h1 h2
    repeat'(first|refine kv' ?_|apply jJ|refine jE' ?_|refine jp' ?_|(apply jc;kernel_rfl)|refine kg' ?_|refine kG' ?_|refine kB' fun _=>?_|refine kA' fun _=>?_|refine kK' fun _=>?_|refine kU' ?_|(apply LR.ev; (· first | (apply Ev.load (v := .int .i64 0); (· exact rfl); (· exact fun w' hw' => wC_e (hw'.holds (wC bc bw _ _ _) (by (repeat (first | exact mH _ _ | apply mT)))))) | (apply Ev.load (v := .pointer (some ⟨bw, 0, none⟩)); (· exact rfl); (· exact fun w' hw' => wC_w (hw'.holds (wC bc bw _ _ _) (by (repeat (first | exact mH _ _ | apply mT))))))); (· exact rfl))|(apply LR.call; (· exact rfl); (intro w1 h1; refine CallsTo.mono (show CallsTo Tryz.prog 27 [.pointer (some ⟨bw, 0, none⟩)] w1 _ from c56 bw a2 c2 (bodyP p) w1 (h1.holds (wC bc bw a2 c2 (bodyP p)) (by (repeat (first | exact mH _ _ | apply mT)))).2.1 (by omega)) ?_; rintro v w2 ⟨a3, c3, rfl, hn⟩; refine LR.back (h1.newSl hn) ?_; clear hn h1))|(apply LR.call; (· exact rfl); (intro w1 h1; refine CallsTo.mono (show CallsTo Tryz.prog 21 [.slice a3 (bodyP p).length c3] w1 _ from p34 a3 c3 (bodyP p) w1 (h1.rd_of_own (by (repeat (first | exact mH _ _ | apply mT)))) hbb (fun e => (ownsRow_some h1.g0 e).2) (by omega)) ?_; rintro v w2 ⟨a4, c4, rfl, hn⟩; refine LR.back (h1.newSl hn) ?_; clear hn h1))|((first|refine kR' ?_ ?_|refine kQ' ?_ ?_);all_goals(intro hc;try simp only[hcs]at hc;try(exfalso;first|contradiction|omega))))
    (apply ret2; (· exact rfl); intro w' hS)
    exact ⟨a4, c4, rfl, hS.toNew (mH _ _)⟩
end Go.Proofs.YtkolmkdbjagfcaaGreat

namespace Go.Proofs.YtkolmkdbjagfcaaGreat
open Go.Hb
attribute [local irreducible] LR CW At Ev thn blk finK noG again CallsTo DW QL dnext TW DP
set_option linter.unusedSimpArgs false
set_option linter.unusedVariables false
set_option maxRecDepth 100000

theorem getS_byt {s : RS} (h : Byt s.1) : Byt (getS s).2.1 := by
  unfold getS
  split
  · exact h
  · exact byt_drop h _
theorem getS_le (s : RS) : (getS s).2.1.length ≤ s.1.length := by
  unfold getS
  split
  · exact Nat.le_refl _
  · simp only [List.length_drop]; omega
theorem getS_err {s : RS} (h : s.2 ≠ 0) : getS s = (0, s) := by unfold getS; rw [if_pos h]
theorem rdN_byt : ∀ (os : List Nat) (cs : List Value) (s : RS), Byt s.1 → Byt (rdN os cs s).2.1
  | [], _, _, h => h
  | o :: r, cs, s, h => by
    unfold rdN
    split
    · exact h
    · exact rdN_byt r _ _ (getS_byt h)
theorem rdN_le : ∀ (os : List Nat) (cs : List Value) (s : RS), (rdN os cs s).2.1.length ≤ s.1.length
  | [], _, _ => Nat.le_refl _
  | o :: r, cs, s => by
    unfold rdN
    split
    · exact Nat.le_refl _
    · exact Nat.le_trans (rdN_le r _ _) (getS_le s)
theorem rdN_len : ∀ (os : List Nat) (cs : List Value) (s : RS), (rdN os cs s).1.length = cs.length
  | [], _, _ => rfl
  | o :: r, cs, s => by
    unfold rdN
    split
    · rfl
    · rw [rdN_len r, List.length_set]
theorem rdN_err : ∀ (os : List Nat) (cs : List Value) (s : RS), s.2 ≠ 0 → rdN os cs s = (cs, s)
  | [], _, _, _ => rfl
  | o :: r, cs, s, h => by unfold rdN; rw [if_pos h]
theorem rdN_app : ∀ (xs ys : List Nat) (cs : List Value) (s : RS), rdN (xs ++ ys) cs s = rdN ys (rdN xs cs s).1 (rdN xs cs s).2
  | [], _, _, _ => rfl
  | o :: r, ys, cs, s => by
    rw [List.cons_append]
    by_cases h : s.2 = 0
    · have e : ∀ t, rdN (o :: t) cs s = rdN t (cs.set o (.int .i64 (getS s).1)) (getS s).2 := fun t => by rw [rdN, if_neg (by simp [h])]
      rw [e, e, rdN_app r]
    · rw [rdN_err _ _ _ h, rdN_err _ _ _ h, rdN_err _ _ _ h]
set_option maxHeartbeats 2000000 in
theorem p89r (bc br : Nat) (a : Option Addr) (c : Nat) (s : RS) (b : Nat) (cs : List Value) (E : Nat) (o : Nat) (w : World) (h : (rX bc br a c s b cs E).holds w) (ho : o + 1 < cs.length) (hB : Byt s.1) (hm : s.1.length ≤ 281474976710656) :
    CallsTo Tryz.prog 76 [.pointer (some ⟨bc, 0, none⟩), .pointer (some ⟨b, o, none⟩)] w fun v w' => ∃ a' c', v = .tuple #[] ∧ Step (rX bc br a c s b cs E) (rX bc br a' c' (rdN [o, o + 1] cs s).2 b (rdN [o, o + 1] cs s).1 E) w w' := by
  have hS0 := St.one h (both_live h) (rX_dep _ _ _ _ _ _ _ _)
  generalize hF : (rX bc br a c s b cs E).foot = F at hS0
  refine go_in (n := 13) hS0 Tryz.func76 rfl rfl ?_
  repeat'(first|(apply CW.reg_held (St w F []))|refine kv' ?_|apply jJ|refine jE' ?_|refine jp' ?_|(apply jc;kernel_rfl)|refine kg' ?_|refine kG' ?_|refine kB' fun _=>?_|refine kA' fun _=>?_|refine kK' fun _=>?_|refine kU' ?_|((first|refine kR' ?_ ?_|refine kQ' ?_ ?_);all_goals(intro hc;try simp only[hcs]at hc;try(exfalso;first|contradiction|omega))))
  all_goals (
    apply DW.quiet [0, 1, 2, 3, 4, 5, 6]
    · decide +kernel
    · first | exact fun _ h => h | exact fun _ h => St.sub h (by repeat (first | exact List.Sublist.refl _ | apply List.Sublist.cons_cons | apply List.Sublist.cons))
    repeat'(first|refine yv' ?_|refine uv' ?_|refine un' ?_|(refine us' ?_ ?_;all_goals(intro hc;try simp only[hcs]at hc;try(exfalso;first|contradiction|omega)))|apply QL.nil)
    all_goals (show DW _ _ _ _ _ _ _ _))
  all_goals (
    apply DW.loud 7
    · exact rfl
    · decide +kernel
    repeat'(first|(apply Go.Hb.kK;(iterate 4 exact rfl);intro bs)|refine kg' ?_|refine kG' ?_|apply kM|refine kv' ?_|refine kK' fun _=>?_|refine kU' ?_|refine kB' fun _=>?_|refine kA' fun _=>?_|(apply LR.call; (· exact rfl); (intro w1 h1; refine (p87r bc br a c s b cs E bs [o, o + 1] w1 (h1.holds _ (by (repeat (first | exact mH _ _ | apply mT)))) (h1.rd_of_blk (by (repeat (first | exact mH _ _ | apply mT)))) (St.apart2 (x := .own bs (.cells _ 114 (0, 0))) h1 (.inl (by (repeat (first | exact List.Sublist.refl _ | apply List.Sublist.cons_cons | apply List.Sublist.cons)))) rfl bs rfl) (fun q hq => by simp only [List.mem_cons, List.not_mem_nil, or_false] at hq; rcases hq with rfl | rfl <;> omega) hB hm (by simp)).mono ?_; rintro v w2 ⟨a2, c2, rfl, st⟩; refine LR.back (St.did h1 (by (repeat (first | exact sH _ _ _ | apply sT))) rfl st (rX_dep _ _ _ _ _ _ _ _)) ?_; clear st h1)))
    all_goals (refine At.stage_same (fun _ h => St.sub h (by repeat (first | exact List.Sublist.refl _ | apply List.Sublist.cons_cons | apply List.Sublist.cons))) ?_))
  all_goals (
    apply DW.loud 8
    · exact rfl
    · decide +kernel
    repeat'(first|(apply Go.Hb.kK;(iterate 4 exact rfl);intro bs)|refine kg' ?_|refine kG' ?_|apply kM|refine kv' ?_|refine kK' fun _=>?_|refine kU' ?_|refine kB' fun _=>?_|refine kA' fun _=>?_|(apply LR.call; (· exact rfl); (intro w1 h1; refine (p87r bc br a c s b cs E bs [o, o + 1] w1 (h1.holds _ (by (repeat (first | exact mH _ _ | apply mT)))) (h1.rd_of_blk (by (repeat (first | exact mH _ _ | apply mT)))) (St.apart2 (x := .own bs (.cells _ 114 (0, 0))) h1 (.inl (by (repeat (first | exact List.Sublist.refl _ | apply List.Sublist.cons_cons | apply List.Sublist.cons)))) rfl bs rfl) (fun q hq => by simp only [List.mem_cons, List.not_mem_nil, or_false] at hq; rcases hq with rfl | rfl <;> omega) hB hm (by simp)).mono ?_; rintro v w2 ⟨a2, c2, rfl, st⟩; refine LR.back (St.did h1 (by (repeat (first | exact sH _ _ _ | apply sT))) rfl st (rX_dep _ _ _ _ _ _ _ _)) ?_; clear st h1)))
    all_goals (refine At.stage_same (fun _ h => St.sub h (by repeat (first | exact List.Sublist.refl _ | apply List.Sublist.cons_cons | apply List.Sublist.cons))) ?_))
  all_goals (first | (apply DW.done_thn; (· decide +kernel)) | (apply DW.done; (· decide +kernel)))
  repeat'(first|refine kv' ?_|apply jJ|refine jE' ?_|refine jp' ?_|(apply jc;kernel_rfl)|refine kg' ?_|refine kG' ?_|refine kB' fun _=>?_|refine kA' fun _=>?_|refine kK' fun _=>?_|refine kU' ?_|((first|refine kR' ?_ ?_|refine kQ' ?_ ?_);all_goals(intro hc;try simp only[hcs]at hc;try(exfalso;first|contradiction|omega))))
  apply end0
  · exact rfl
  intro w' hS
  subst hF
  exact ⟨a2, c2, rfl, (hS.sub (L' := [rX bc br a2 c2 (rdN [o, o + 1] cs s).2 b (rdN [o, o + 1] cs s).1 E]) (by (repeat (first | exact List.Sublist.refl _ | apply List.Sublist.cons_cons | apply List.Sublist.cons)))).step rfl⟩
set_option maxHeartbeats 2000000 in
theorem p92r (bc br : Nat) (a : Option Addr) (c : Nat) (s : RS) (b : Nat) (cs : List Value) (E : Nat) (o : Nat) (w : World) (h : (rX bc br a c s b cs E).holds w) (ho : o < cs.length) (hB : Byt s.1) (hm : s.1.length ≤ 281474976710656) :
    CallsTo Tryz.prog 79 [.pointer (some ⟨bc, 0, none⟩), .pointer (some ⟨b, o, none⟩)] w fun v w' => ∃ a' c', v = .tuple #[] ∧ Step (rX bc br a c s b cs E) (rX bc br a' c' (rdN [o] cs s).2 b (rdN [o] cs s).1 E) w w' := by
  have hS0 := St.one h (both_live h) (rX_dep _ _ _ _ _ _ _ _)
  generalize hF : (rX bc br a c s b cs E).foot = F at hS0
  refine go_in (n := 8) hS0 Tryz.func79 rfl rfl ?_
  repeat'(first|(apply Go.Hb.kK;(iterate 4 exact rfl);intro bs)|refine kv' ?_|apply jJ|refine jE' ?_|refine jp' ?_|(apply jc;kernel_rfl)|refine kg' ?_|refine kG' ?_|refine kB' fun _=>?_|refine kA' fun _=>?_|refine kK' fun _=>?_|refine kU' ?_|(apply LR.call; (· exact rfl); (intro w1 h1; refine (p87r bc br a c s b cs E bs [o] w1 (h1.holds _ (by (repeat (first | exact mH _ _ | apply mT)))) (h1.rd_of_blk (by (repeat (first | exact mH _ _ | apply mT)))) (St.apart2 (x := .own bs (.cells _ 114 (0, 0))) h1 (.inl (by (repeat (first | exact List.Sublist.refl _ | apply List.Sublist.cons_cons | apply List.Sublist.cons)))) rfl bs rfl) (fun q hq => by simp only [List.mem_cons, List.not_mem_nil, or_false] at hq; subst hq; exact ho) hB hm (by simp)).mono ?_; rintro v w2 ⟨a2, c2, rfl, st⟩; refine LR.back (St.did h1 (by (repeat (first | exact sH _ _ _ | apply sT))) rfl st (rX_dep _ _ _ _ _ _ _ _)) ?_; clear st h1))|((first|refine kR' ?_ ?_|refine kQ' ?_ ?_);all_goals(intro hc;try simp only[hcs]at hc;try(exfalso;first|contradiction|omega))))
  apply end0
  · exact rfl
  intro w' hS
  subst hF
  exact ⟨a2, c2, rfl, (hS.sub (L' := [rX bc br a2 c2 (rdN [o] cs s).2 b (rdN [o] cs s).1 E]) (by (repeat (first | exact List.Sublist.refl _ | apply List.Sublist.cons_cons | apply List.Sublist.cons)))).step rfl⟩
def six (o : Nat) : List Nat := [o, o + 1, o + 2, o + 3, o + 4, o + 5]
set_option maxHeartbeats 4000000 in
theorem p94r (bc br : Nat) (a : Option Addr) (c : Nat) (s : RS) (b : Nat) (cs : List Value) (E : Nat) (o : Nat) (w : World) (h : (rX bc br a c s b cs E).holds w) (ho : o + 5 < cs.length) (hB : Byt s.1) (hm : s.1.length ≤ 281474976710656) :
    CallsTo Tryz.prog 81 [.pointer (some ⟨bc, 0, none⟩), .pointer (some ⟨b, o, none⟩)] w fun v w' => ∃ a' c', v = .tuple #[] ∧ Step (rX bc br a c s b cs E) (rX bc br a' c' (rdN (six o) cs s).2 b (rdN (six o) cs s).1 E) w w' := by
  have hS0 := St.one h (both_live h) (rX_dep _ _ _ _ _ _ _ _)
  generalize hF : (rX bc br a c s b cs E).foot = F at hS0
  have e6 : rdN (six o) cs s = rdN [o + 3, o + 4, o + 5] (rdN [o + 1, o + 1 + 1] (rdN [o] cs s).1 (rdN [o] cs s).2).1 (rdN [o + 1, o + 1 + 1] (rdN [o] cs s).1 (rdN [o] cs s).2).2 := by
    rw [← rdN_app, ← rdN_app]; rfl
  have l1 := rdN_len [o] cs s
  have b1 := rdN_byt [o] cs s hB
  have m1 := rdN_le [o] cs s
  obtain ⟨⟨cs1, s1⟩, hr1⟩ : ∃ r, rdN [o] cs s = r := ⟨_, rfl⟩
  rw [hr1] at l1 b1 m1 e6
  simp only at l1 b1 m1 e6
  have l2 := rdN_len [o + 1, o + 1 + 1] cs1 s1
  have b2 := rdN_byt [o + 1, o + 1 + 1] cs1 s1 b1
  have m2 := rdN_le [o + 1, o + 1 + 1] cs1 s1
  obtain ⟨⟨cs2, s2⟩, hr2⟩ : ∃ r, rdN [o + 1, o + 1 + 1] cs1 s1 = r := ⟨_, rfl⟩
  rw [hr2] at l2 b2 m2 e6
  simp only at l2 b2 m2 e6
  refine go_in (n := 27) hS0 Tryz.func81 rfl rfl ?_
  repeat'(first|(apply CW.reg_held (St w F []))|(apply Go.Hb.kK;(iterate 4 exact rfl);intro bs)|refine kv' ?_|apply jJ|refine jE' ?_|refine jp' ?_|(apply jc;kernel_rfl)|refine kg' ?_|refine kG' ?_|refine kB' fun _=>?_|refine kA' fun _=>?_|refine kK' fun _=>?_|refine kU' ?_|(apply LR.call; (· exact rfl); (intro w1 h1; first | (refine (p87r bc br a c s b cs E bs [o] w1 (h1.holds (rX bc br a c s b cs E) (by (repeat (first | exact mH _ _ | apply mT)))) (h1.rd_of_blk (by (repeat (first | exact mH _ _ | apply mT)))) (St.apart2 (x := .own bs (.cells _ 114 (0, 0))) h1 (.inl (by (repeat (first | exact List.Sublist.refl _ | apply List.Sublist.cons_cons | apply List.Sublist.cons)))) rfl bs rfl) (fun q hq => by simp only [List.mem_cons, List.not_mem_nil, or_false] at hq; subst hq; omega) hB hm (by simp)).mono ?_; rintro v w2 ⟨a2, c2, rfl, st⟩; rw [hr1] at st; refine LR.back (St.did h1 (by (repeat (first | exact sH _ _ _ | apply sT))) rfl st (rX_dep _ _ _ _ _ _ _ _)) ?_; clear st h1) | (refine (p89r bc br a2 c2 s1 b cs1 E (o + 1) w1 (h1.holds (rX bc br a2 c2 s1 b cs1 E) (by (repeat (first | exact mH _ _ | apply mT)))) (by omega) b1 (by omega)).mono ?_; rintro v w2 ⟨a3, c3, rfl, st⟩; rw [hr2] at st; refine LR.back (St.did h1 (by (repeat (first | exact sH _ _ _ | apply sT))) rfl st (rX_dep _ _ _ _ _ _ _ _)) ?_; clear st h1)))|((first|refine kR' ?_ ?_|refine kQ' ?_ ?_);all_goals(intro hc;try simp only[hcs]at hc;try(exfalso;first|contradiction|omega))))
  all_goals (
    apply DW.quiet [0, 1, 2, 3, 4, 5, 6, 7, 8, 9]
    · decide +kernel
    · first | exact fun _ h => h | exact fun _ h => St.sub h (by repeat (first | exact List.Sublist.refl _ | apply List.Sublist.cons_cons | apply List.Sublist.cons))
    repeat'(first|refine yv' ?_|refine uv' ?_|refine un' ?_|(refine us' ?_ ?_;all_goals(intro hc;try simp only[hcs]at hc;try(exfalso;first|contradiction|omega)))|apply QL.nil)
    all_goals (show DW _ _ _ _ _ _ _ _))
  all_goals (
    apply DW.loud 10
    · exact rfl
    · decide +kernel
    repeat'(first|(apply Go.Hb.kK;(iterate 4 exact rfl);intro bs)|refine kg' ?_|refine kG' ?_|apply kM|refine kv' ?_|refine kK' fun _=>?_|refine kU' ?_|refine kB' fun _=>?_|refine kA' fun _=>?_|(apply LR.call; (· exact rfl); (intro w1 h1; refine (p87r bc br a3 c3 s2 b cs2 E bs [o + 3, o + 4, o + 5] w1 (h1.holds (rX bc br a3 c3 s2 b cs2 E) (by (repeat (first | exact mH _ _ | apply mT)))) (h1.rd_of_blk (by (repeat (first | exact mH _ _ | apply mT)))) (St.apart2 (x := .own bs (.cells _ 114 (0, 0))) h1 (.inl (by (repeat (first | exact List.Sublist.refl _ | apply List.Sublist.cons_cons | apply List.Sublist.cons)))) rfl bs rfl) (fun q hq => by simp only [List.mem_cons, List.not_mem_nil, or_false] at hq; rcases hq with rfl | rfl | rfl <;> omega) b2 (by omega) (by simp)).mono ?_; rintro v w2 ⟨a4, c4, rfl, st⟩; refine LR.back (St.did h1 (by (repeat (first | exact sH _ _ _ | apply sT))) rfl st (rX_dep _ _ _ _ _ _ _ _)) ?_; clear st h1)))
    all_goals (refine At.stage_same (fun _ h => St.sub h (by repeat (first | exact List.Sublist.refl _ | apply List.Sublist.cons_cons | apply List.Sublist.cons))) ?_))
  all_goals (
    apply DW.loud 11
    · exact rfl
    · decide +kernel
    repeat'(first|(apply Go.Hb.kK;(iterate 4 exact rfl);intro bs)|refine kg' ?_|refine kG' ?_|apply kM|refine kv' ?_|refine kK' fun _=>?_|refine kU' ?_|refine kB' fun _=>?_|refine kA' fun _=>?_|(apply LR.call; (· exact rfl); (intro w1 h1; refine (p87r bc br a3 c3 s2 b cs2 E bs [o + 3, o + 4, o + 5] w1 (h1.holds (rX bc br a3 c3 s2 b cs2 E) (by (repeat (first | exact mH _ _ | apply mT)))) (h1.rd_of_blk (by (repeat (first | exact mH _ _ | apply mT)))) (St.apart2 (x := .own bs (.cells _ 114 (0, 0))) h1 (.inl (by (repeat (first | exact List.Sublist.refl _ | apply List.Sublist.cons_cons | apply List.Sublist.cons)))) rfl bs rfl) (fun q hq => by simp only [List.mem_cons, List.not_mem_nil, or_false] at hq; rcases hq with rfl | rfl | rfl <;> omega) b2 (by omega) (by simp)).mono ?_; rintro v w2 ⟨a4, c4, rfl, st⟩; refine LR.back (St.did h1 (by (repeat (first | exact sH _ _ _ | apply sT))) rfl st (rX_dep _ _ _ _ _ _ _ _)) ?_; clear st h1)))
    all_goals (refine At.stage_same (fun _ h => St.sub h (by repeat (first | exact List.Sublist.refl _ | apply List.Sublist.cons_cons | apply List.Sublist.cons))) ?_))
  all_goals (first | (apply DW.done_thn; (· decide +kernel)) | (apply DW.done; (· decide +kernel)))
  repeat'(first|refine kv' ?_|apply jJ|refine jE' ?_|refine jp' ?_|(apply jc;kernel_rfl)|refine kg' ?_|refine kG' ?_|refine kB' fun _=>?_|refine kA' fun _=>?_|refine kK' fun _=>?_|refine kU' ?_|((first|refine kR' ?_ ?_|refine kQ' ?_ ?_);all_goals(intro hc;try simp only[hcs]at hc;try(exfalso;first|contradiction|omega))))
  apply end0
  · exact rfl
  intro w' hS
  subst hF
  rw [e6]
  exact ⟨a4, c4, rfl, (hS.sub (L' := [rX bc br a4 c4 (rdN [o + 3, o + 4, o + 5] cs2 s2).2 b (rdN [o + 3, o + 4, o + 5] cs2 s2).1 E]) (by (repeat (first | exact List.Sublist.refl _ | apply List.Sublist.cons_cons | apply List.Sublist.cons)))).step rfl⟩
end Go.Proofs.YtkolmkdbjagfcaaGreat

namespace Go.Proofs.YtkolmkdbjagfcaaGreat
open Go.Hb
attribute [local irreducible] LR CW At Ev thn blk finK noG again CallsTo DW QL dnext TW DP
set_option linter.unusedSimpArgs false
set_option linter.unusedVariables false
set_option maxRecDepth 100000

def rdL {α : Type} (f : RS → α × RS) : Nat → RS → List α × RS
  | 0, s => ([], s)
  | k + 1, s => ((rdL f k s).1 ++ [(f (rdL f k s).2).1], (f (rdL f k s).2).2)
theorem rdL_len {α : Type} (f : RS → α × RS) : ∀ (k : Nat) (s : RS), (rdL f k s).1.length = k
  | 0, _ => rfl
  | k + 1, s => by unfold rdL; rw [List.length_append, rdL_len f k]; rfl
def lstR {α : Type} (f : RS → α × RS) (most : Int) (s : RS) : List α × RS :=
  if (getS s).2.2 ≠ 0 then ([], (getS s).2) else if most < (getS s).1 then ([], ((getS s).2.1, 5)) else rdL f (getS s).1.toNat (getS s).2
def getE (s : RS) : Ent × RS :=
  (⟨(getS s).1, (getS (getS s).2).1, (getS (getS (getS s).2).2).1, (getS (getS (getS (getS s).2).2).2).1, (getS (getS (getS (getS (getS s).2).2).2).2).1, (getS (getS (getS (getS (getS (getS s).2).2).2).2).2).1⟩, (getS (getS (getS (getS (getS (getS s).2).2).2).2).2).2)
theorem getS_nn (s : RS) : 0 ≤ (getS s).1 := by
  unfold getS
  split
  · exact Int.le_refl _
  · exact Int.natCast_nonneg _
theorem getE_byt {s : RS} (h : Byt s.1) : Byt (getE s).2.1 := getS_byt (getS_byt (getS_byt (getS_byt (getS_byt (getS_byt h)))))
theorem getE_le (s : RS) : (getE s).2.1.length ≤ s.1.length := by
  unfold getE
  have h1 := getS_le s
  have h2 := getS_le (getS s).2
  have h3 := getS_le (getS (getS s).2).2
  have h4 := getS_le (getS (getS (getS s).2).2).2
  have h5 := getS_le (getS (getS (getS (getS s).2).2).2).2
  have h6 := getS_le (getS (getS (getS (getS (getS s).2).2).2).2).2
  simp only
  omega
theorem rdL_byt {α : Type} {f : RS → α × RS} (hf : ∀ s, Byt s.1 → Byt (f s).2.1) : ∀ (k : Nat) (s : RS), Byt s.1 → Byt (rdL f k s).2.1
  | 0, _, h => h
  | k + 1, s, h => by unfold rdL; exact hf _ (rdL_byt hf k s h)
theorem rdL_le {α : Type} {f : RS → α × RS} (hf : ∀ s, (f s).2.1.length ≤ s.1.length) : ∀ (k : Nat) (s : RS), (rdL f k s).2.1.length ≤ s.1.length
  | 0, _ => Nat.le_refl _
  | k + 1, s => by unfold rdL; exact Nat.le_trans (hf _) (rdL_le hf k s)
theorem rd_int (A B : List Value) (s : RS) {n : Nat} (hn : n = A.length) : rdN [n] (A ++ Value.int .i64 0 :: B) s = (A ++ Value.int .i64 (getS s).1 :: B, (getS s).2) := by
  unfold rdN
  split
  · rename_i h
    rw [getS_err h]
  · subst hn
    rw [rdN]
    simp
theorem rd_ent (A B : List Value) (s : RS) {n : Nat} (hn : n = A.length) : rdN (six n) (A ++ (Value.int .i64 0 :: Value.int .i64 0 :: Value.int .i64 0 :: Value.int .i64 0 :: Value.int .i64 0 :: Value.int .i64 0 :: B)) s = (A ++ ((getE s).1.cells ++ B), (getE s).2) := by
  have e : six n = [n] ++ ([n + 1] ++ ([n + 2] ++ ([n + 3] ++ ([n + 4] ++ [n + 5])))) := rfl
  have ea : ∀ (x : Value) (C D : List Value), C ++ x :: D = (C ++ [x]) ++ D := fun x C D => by simp
  rw [e]
  repeat rw [rdN_app]
  rw [rd_int A _ s hn]
  simp only
  rw [ea _ A, rd_int _ _ _ (by rw [List.length_append, hn]; rfl)]
  simp only
  rw [ea _ (A ++ [_]), rd_int _ _ _ (by simp only [List.length_append]; rw [hn]; rfl)]
  simp only
  rw [ea _ (A ++ [_] ++ [_]), rd_int _ _ _ (by simp only [List.length_append]; rw [hn]; rfl)]
  simp only
  rw [ea _ (A ++ [_] ++ [_] ++ [_]), rd_int _ _ _ (by simp only [List.length_append]; rw [hn]; rfl)]
  simp only
  rw [ea _ (A ++ [_] ++ [_] ++ [_] ++ [_]), rd_int _ _ _ (by simp only [List.length_append]; rw [hn]; rfl)]
  simp only [List.append_assoc, List.cons_append, List.nil_append, Ent.cells, getE]
/-- What is left of a read: the reader's state, the block's cells, and one new thing. -/
def LstP (bc br : Nat) (a : Option Addr) (c : Nat) (s : RS) (b : Nat) (cs : List Value) (E : Nat) (s' : RS) (good : List Value → Asrt → Prop) (w w' : World) : Prop :=
  ∃ a' c' cs' X, Step (rX bc br a c s b cs E) (both (rX bc br a' c' s' b cs' E) X) w w' ∧ X.dep ∧ X.excl = true ∧ cs'.length = cs.length ∧ (s'.2 = 0 → good cs' X)
theorem lst_fin {w w' : World} {F : Nat → Prop} {bc br : Nat} {a a' : Option Addr} {c c' : Nat} {s s' : RS} {b : Nat} {cs cs' : List Value} {E : Nat} {X : Asrt} {R : List Asrt} (hF : (rX bc br a c s b cs E).foot = F) (hS : St w F (X :: codB bc none (some ⟨br, 0, none⟩) s'.2 :: rrA 142 [.bool true] br a' c' s'.1 :: .own b (.cells cs'.toArray E (0, 0)) :: R) w') (hx : X.excl = true) : Step (rX bc br a c s b cs E) (both (rX bc br a' c' s' b cs' E) X) w w' := by
  have h1 : St w F (codB bc none (some ⟨br, 0, none⟩) s'.2 :: rrA 142 [.bool true] br a' c' s'.1 :: X :: .own b (.cells cs'.toArray E (0, 0)) :: R) w' := front (front (front hS 1 rfl rfl) 2 rfl rfl) 1 rfl rfl
  have h2 : St w F (rC bc br a' c' s'.1 s'.2 :: X :: .own b (.cells cs'.toArray E (0, 0)) :: R) w' := St.join h1 rfl rfl
  have h3 : St w F (rC bc br a' c' s'.1 s'.2 :: .own b (.cells cs'.toArray E (0, 0)) :: X :: R) w' := front (front h2 2 rfl rfl) 1 rfl rfl
  have h4 : St w F (rX bc br a' c' s' b cs' E :: X :: R) w' := St.join h3 rfl rfl
  have h5 := St.join h4 rfl hx
  subst hF
  exact h5.step (by rfl)
theorem lst_none {w w' : World} {F : Nat → Prop} {bc br : Nat} {a a' : Option Addr} {c c' : Nat} {s s' : RS} {b : Nat} {cs cs' : List Value} {E : Nat} {good : List Value → Asrt → Prop} {R : List Asrt} (hF : (rX bc br a c s b cs E).foot = F) (hS : St w F (codB bc none (some ⟨br, 0, none⟩) s'.2 :: rrA 142 [.bool true] br a' c' s'.1 :: .own b (.cells cs'.toArray E (0, 0)) :: R) w') (hl : cs'.length = cs.length) (he : s'.2 ≠ 0) : LstP bc br a c s b cs E s' good w w' :=
  ⟨a', c', cs', _, lst_fin hF (hS.nilsl 3 1) rfl, osl.dep _ _ _ _ _, rfl, hl, fun h => absurd h he⟩
theorem own_rd {b : Nat} {cs : List Value} {E : Nat} {w : World} (h : (Asrt.own b (.cells cs.toArray E (0, 0))).holds w) : Rd w (some ⟨b, 0, none⟩) cs := fun j v hj => ⟨_, rfl, by rw [addr_add, cell_own h]; simpa using hj⟩
theorem own_cell {b o : Nat} {cs : List Value} {E : Nat} {v : Value} {w : World} (h : (Asrt.own b (.cells cs.toArray E (0, 0))).holds w) (hv : cs[o]? = some v) : w.cell? ⟨b, o, none⟩ = some v := by
  rw [cell_own h]
  simpa using hv
theorem splice_at {cs : List Value} {o : Nat} {v : Value} (h : o < cs.length) : (splice cs o [v])[o]? = some v := by
  unfold splice
  have : (cs.take o).length = o := by rw [List.length_take]; omega
  rw [List.append_assoc, List.getElem?_append_right (by omega), this, Nat.sub_self]
  rfl
theorem splice_len1 {cs : List Value} {o : Nat} {v : Value} (h : o < cs.length) : (splice cs o [v]).length = cs.length := by
  unfold splice
  simp only [List.length_append, List.length_take, List.length_drop, List.length_cons, List.length_nil]
  omega
theorem rep_succ {k i : Nat} {Z : List Value} (h : i < k) : (List.replicate (k - i) Z).flatten = Z ++ (List.replicate (k - (i + 1)) Z).flatten := by
  rw [show k - i = (k - (i + 1)) + 1 by omega, List.replicate_succ, List.flatten_cons]
theorem rep_lenN {Z : List Value} (k : Nat) : (List.replicate k Z).flatten.length = k * Z.length := by
  induction k with
  | zero => simp
  | succ k ih => rw [List.replicate_succ, List.flatten_cons, List.length_append, ih, Nat.add_mul]; omega
theorem rep_len1 {k : Nat} : (List.replicate k [Value.int .i64 0]).flatten.length = k * 1 := rep_lenN k
theorem rep_len6 {k : Nat} : (List.replicate k [Value.int .i64 0, .int .i64 0, .int .i64 0, .int .i64 0, .int .i64 0, .int .i64 0]).flatten.length = k * 6 := rep_lenN k
structure Lst where
  i : Nat
  a : Option Addr
  c : Nat
set_option maxHeartbeats 16000000 in
theorem p91r (bc br : Nat) (a : Option Addr) (c : Nat) (s : RS) (b : Nat) (cs : List Value) (E : Nat) (o : Nat) (most : Int) (w : World) (h : (rX bc br a c s b cs E).holds w) (ho : o < cs.length) (hz : cs[o]? = some (.slice none 0 0)) (hB : Byt s.1) (hm : s.1.length ≤ 281474976710656) (hmost : most ≤ 100) :
    CallsTo Tryz.prog 78 [.pointer (some ⟨bc, 0, none⟩), .pointer (some ⟨b, o, none⟩), .int .i64 most, .func (.func 79) #[] #[]] w fun v w' => v = .tuple #[] ∧ LstP bc br a c s b cs E (lstR getS most s).2
      (fun cs' X => ∃ sa sc, cs' = splice cs o [.slice sa (lstR getS most s).1.length sc] ∧ (sa = none → sc = 0) ∧ ∀ w2, X.holds w2 → Rd w2 sa ((lstR getS most s).1.flatMap ivF)) w w' := by
  have hS0 := St.one h (both_live h) (rX_dep _ _ _ _ _ _ _ _)
  generalize hF : (rX bc br a c s b cs E).foot = F at hS0
  have hS1 : St w F [codB bc none (some ⟨br, 0, none⟩) s.2, rrA 142 [.bool true] br a c s.1, .own b (.cells cs.toArray E (0, 0))] w := (hS0.part (rC_dep _ _ _ _ _ _) (Asrt.dep_own _ _)).part (Asrt.dep_own _ _) (rrA_dep _ _ _ _ _ _)
  have hrd : rdN [0] [Value.int .i64 0] s = ([Value.int .i64 (getS s).1], (getS s).2) := rd_int [] [] s rfl
  have hgb := getS_byt hB
  have hgl := getS_le s
  have hgn := getS_nn s
  obtain ⟨r0, hr0⟩ : ∃ r, lstR getS most s = r := ⟨_, rfl⟩
  have hr1 := hr0
  rw [hr0]
  unfold lstR at hr1
  obtain ⟨⟨n, l1, e1⟩, hg⟩ : ∃ r, getS s = r := ⟨_, rfl⟩
  rw [hg] at hrd hgb hgl hgn hr1
  simp only at hrd hgb hgl hgn hr1
  refine go_in (n := 60) hS1 Tryz.func78 rfl rfl ?_
  by_cases he : e1 = 0
  · subst he
    rw [if_neg (by simp)] at hr1
    by_cases hn : most < n
    · rw [if_pos hn] at hr1
      subst hr1
      repeat'(first|(apply kA;exact rfl;intro bn)|(apply Go.Hb.kK;(iterate 4 exact rfl);intro bs)|refine kv' ?_|apply jJ|refine jE' ?_|refine jp' ?_|(apply jc;kernel_rfl)|refine kg' ?_|refine kG' ?_|refine kB' fun _=>?_|refine kA' fun _=>?_|refine kK' fun _=>?_|refine kU' ?_|(apply LR.ev; (· apply Ev.load (v := .slice none 0 0); (· exact rfl); (· refine fun w' hw' => own_cell (hw'.holds (.own b (.cells cs.toArray E (0, 0))) ?_) hz; (repeat (first | exact mH _ _ | apply mT)); done)); (· exact rfl))|(apply LR.call; (· exact rfl); (intro w1 h1; have h3 : St w F [rX bc br a c s bn [Value.int .i64 0] 3, .own bs (.cells [Value.pointer (some ⟨bn, 0, none⟩)].toArray 114 (0, 0)), .own b (.cells cs.toArray E (0, 0))] w1 := St.join (x := rC bc br a c s.1 s.2) (front (front (St.join (x := codB bc none (some ⟨br, 0, none⟩) s.2) (front (front h1 3 rfl rfl) 3 rfl rfl) rfl rfl) 2 rfl rfl) 1 rfl rfl) rfl rfl; refine (p87r bc br a c s bn [Value.int .i64 0] 3 bs [0] w1 (h3.holds _ (mH _ _)) (h3.rd_of_blk (by (repeat (first | exact mH _ _ | apply mT)))) (St.apart2 (x := .own bs (.cells _ 114 (0, 0))) h3 (.inr (by (repeat (first | exact List.Sublist.refl _ | apply List.Sublist.cons_cons | apply List.Sublist.cons)))) rfl bs rfl) (by simp) hB hm (by simp)).mono ?_; rintro v w2 ⟨a2, c2, rfl, st⟩; rw [hrd] at st; refine LR.back (((St.did h3 (Sel.head _ _ _) rfl st (rX_dep _ _ _ _ _ _ _ _)).part (rC_dep _ _ _ _ _ _) (Asrt.dep_own _ _)).part (Asrt.dep_own _ _) (rrA_dep _ _ _ _ _ _)) ?_; clear st h3 h1))|((first|refine kR' ?_ ?_|refine kQ' ?_ ?_);all_goals(intro hc;try simp only[hcs]at hc;try(exfalso;first|contradiction|omega))))
      apply ret0
      · exact rfl
      intro w' hS
      exact ⟨rfl, lst_none hF (s' := (l1, 5)) (a' := a2) (c' := c2) (cs' := cs) (hS.sub (by (repeat (first | exact List.Sublist.refl _ | apply List.Sublist.cons_cons | apply List.Sublist.cons)))) rfl (by simp)⟩
    · rw [if_neg hn] at hr1
      obtain ⟨k, rfl⟩ := Int.eq_ofNat_of_zero_le hgn
      rw [Int.toNat_natCast] at hr1
      have hk : k ≤ 100 := by omega
      have hst : ∀ bm : Nat, (([Value.slice (some ⟨bm, 0, none⟩) k k].all Value.oneCell' && Nat.beq 1 1 && Nat.ble (o + 1) cs.length) = true) := fun bm => by
        have h1 : Nat.ble (o + 1) cs.length = true := by simp; omega
        show ((true && true && Nat.ble (o + 1) cs.length) = true)
        rw [h1]; rfl
      repeat'(first|(apply kA;exact rfl;intro bn)|(apply Go.Hb.kK;(iterate 4 exact rfl);intro bs)|refine kv' ?_|apply jJ|refine jE' ?_|refine jp' ?_|(apply jc;kernel_rfl)|refine kg' ?_|refine kG' ?_|refine kB' fun _=>?_|refine kA' fun _=>?_|refine kK' fun _=>?_|refine kU' ?_|(apply LR.ev; (· apply Ev.load (v := .slice none 0 0); (· exact rfl); (· refine fun w' hw' => own_cell (hw'.holds (.own b (.cells cs.toArray E (0, 0))) ?_) hz; (repeat (first | exact mH _ _ | apply mT)); done)); (· exact rfl))|(apply LR.call; (· exact rfl); (intro w1 h1; have h3 : St w F [rX bc br a c s bn [Value.int .i64 0] 3, .own bs (.cells [Value.pointer (some ⟨bn, 0, none⟩)].toArray 114 (0, 0)), .own b (.cells cs.toArray E (0, 0))] w1 := St.join (x := rC bc br a c s.1 s.2) (front (front (St.join (x := codB bc none (some ⟨br, 0, none⟩) s.2) (front (front h1 3 rfl rfl) 3 rfl rfl) rfl rfl) 2 rfl rfl) 1 rfl rfl) rfl rfl; refine (p87r bc br a c s bn [Value.int .i64 0] 3 bs [0] w1 (h3.holds _ (mH _ _)) (h3.rd_of_blk (by (repeat (first | exact mH _ _ | apply mT)))) (St.apart2 (x := .own bs (.cells _ 114 (0, 0))) h3 (.inr (by (repeat (first | exact List.Sublist.refl _ | apply List.Sublist.cons_cons | apply List.Sublist.cons)))) rfl bs rfl) (by simp) hB hm (by simp)).mono ?_; rintro v w2 ⟨a2, c2, rfl, st⟩; rw [hrd] at st; refine LR.back (((St.did h3 (Sel.head _ _ _) rfl st (rX_dep _ _ _ _ _ _ _ _)).part (rC_dep _ _ _ _ _ _) (Asrt.dep_own _ _)).part (Asrt.dep_own _ _) (rrA_dep _ _ _ _ _ _)) ?_; clear st h3 h1))|(apply LR.makeSlice (m := k); (· exact rfl); (· exact rfl); (· omega); (· omega); (· exact rfl); (· exact rfl); (intro bm))|(apply kS; (· exact rfl); (· exact rfl); (· (repeat (first | exact sH _ _ _ | apply sT))); (· exact hst _))|(apply LR.ev; (· apply Ev.load (v := .slice (some ⟨bm, 0, none⟩) k k); (· exact rfl); (· refine fun w' hw' => own_cell (hw'.holds (.own b (.cells (splice cs o [.slice (some ⟨bm, 0, none⟩) k k]).toArray E (0, 0))) ?_) (splice_at ho); (repeat (first | exact mH _ _ | apply mT)); done)); (· exact rfl))|((first|refine kR' ?_ ?_|refine kQ' ?_ ?_);all_goals(intro hc;try simp only[hcs]at hc;try(exfalso;first|contradiction|omega))))
      apply CW.loop [9, 48, 49, 50, 51, 52, 53, 54, 55, 56, 57, 58, 59] (fun t : Lst => t.i ≤ k) (fun t => [(48, Value.int .i64 (t.i : Int))])
        (fun t => St w F [.own bm (.cells ((rdL getS t.i (l1, 0)).1.flatMap ivF ++ (List.replicate (k - t.i) [Value.int .i64 0]).flatten).toArray 3 (0, 0)), codB bc none (some ⟨br, 0, none⟩) (rdL getS t.i (l1, 0)).2.2, rrA 142 [.bool true] br t.a t.c (rdL getS t.i (l1, 0)).2.1, .own b (.cells (splice cs o [.slice (some ⟨bm, 0, none⟩) k k]).toArray E (0, 0))]) (fun t => k - t.i)
      · exact fun w' hw' => ⟨⟨0, a2, c2⟩, Nat.zero_le _, ⟨rfl, trivial⟩, hw'.sub (L' := [.own bm (.cells (List.replicate k [Value.int .i64 0]).flatten.toArray 3 (0, 0)), codB bc none (some ⟨br, 0, none⟩) 0, rrA 142 [.bool true] br a2 c2 l1, .own b (.cells (splice cs o [.slice (some ⟨bm, 0, none⟩) k k]).toArray E (0, 0))]) (by (repeat (first | exact List.Sublist.refl _ | apply List.Sublist.cons_cons | apply List.Sublist.cons)))⟩
      rintro ⟨i, a1, c1⟩ g hi
      simp only at hi ⊢
      have hlen := rdL_len getS i (l1, 0)
      have hrl := Go.Hb.rows_len ivF_len (rdL getS i (l1, 0)).1
      rw [hlen] at hrl
      have hbyt := rdL_byt (fun s => getS_byt) i (l1, 0) hgb
      have hle := rdL_le getS_le i (l1, 0)
      by_cases hlt : i < k
      · have hel : rdN [0 + (i : Int).toNat * 1] ((rdL getS i (l1, 0)).1.flatMap ivF ++ (List.replicate (k - i) [Value.int .i64 0]).flatten) (rdL getS i (l1, 0)).2 = ((rdL getS (i + 1) (l1, 0)).1.flatMap ivF ++ (List.replicate (k - (i + 1)) [Value.int .i64 0]).flatten, (rdL getS (i + 1) (l1, 0)).2) := by
          rw [rep_succ hlt]
          refine (rd_int _ _ _ (by rw [hrl]; simp)).trans ?_
          rw [rdL, List.flatMap_append]
          simp [ivF]
        have hcl : ((rdL getS i (l1, 0)).1.flatMap ivF ++ (List.replicate (k - i) [Value.int .i64 0]).flatten).length = k * 1 := by
          rw [List.length_append, hrl, rep_len1]
          show i * 1 + (k - i) * 1 = k * 1
          omega
        obtain ⟨⟨X1, s1⟩, hX1⟩ : ∃ r, rdL getS i (l1, 0) = r := ⟨_, rfl⟩
        rw [hX1] at hel hcl hbyt hle
        rw [hX1]
        simp only at hel hcl hbyt hle ⊢
        repeat'(first|refine kv' ?_|apply jJ|refine jE' ?_|refine jp' ?_|(apply jc;kernel_rfl)|refine kg' ?_|refine kG' ?_|refine kB' fun _=>?_|refine kA' fun _=>?_|refine kK' fun _=>?_|refine kU' ?_|(apply idxX;(iterate 2 exact rfl);(iterate 2(first|omega|(dsimp only;omega)));exact rfl)|(apply LR.ev; (· apply Ev.load (v := .slice (some ⟨bm, 0, none⟩) k k); (· exact rfl); (· refine fun w' hw' => own_cell (hw'.holds (.own b (.cells (splice cs o [.slice (some ⟨bm, 0, none⟩) k k]).toArray E (0, 0))) ?_) (splice_at ho); (repeat (first | exact mH _ _ | apply mT)); done)); (· exact rfl))|((first|refine kR' ?_ ?_|refine kQ' ?_ ?_);all_goals(intro hc;try simp only[hcs]at hc;try(exfalso;first|contradiction|omega))))
        apply LR.call_val (g := 79) (cap := [])
        · exact rfl
        · exact rfl
        intro w1 h1
        have h2 : St w F [rC bc br a1 c1 s1.1 s1.2, .own bm (.cells (X1.flatMap ivF ++ (List.replicate (k - i) [Value.int .i64 0]).flatten).toArray 3 (0, 0)), .own b (.cells (splice cs o [.slice (some ⟨bm, 0, none⟩) k k]).toArray E (0, 0))] w1 := St.join (x := codB bc none (some ⟨br, 0, none⟩) s1.2) (front (front (front h1 1 rfl rfl) 2 rfl rfl) 1 rfl rfl) rfl rfl
        have h3 : St w F [rX bc br a1 c1 s1 bm (X1.flatMap ivF ++ (List.replicate (k - i) [Value.int .i64 0]).flatten) 3, .own b (.cells (splice cs o [.slice (some ⟨bm, 0, none⟩) k k]).toArray E (0, 0))] w1 := St.join h2 rfl rfl
        refine CallsTo.mono (show CallsTo Tryz.prog 79 [.pointer (some ⟨bc, 0, none⟩), .pointer (some ⟨bm, 0 + (i : Int).toNat * 1, none⟩)] w1 _ from p92r bc br a1 c1 s1 bm _ 3 (0 + (i : Int).toNat * 1) w1 (h3.holds _ (mH _ _)) (by rw [hcl, Int.toNat_natCast]; omega) hbyt (by omega)) ?_
        rintro v w2 ⟨a3, c3, rfl, st⟩
        rw [hel] at st
        refine LR.back (front (((St.did h3 (Sel.head _ _ _) rfl st (rX_dep _ _ _ _ _ _ _ _)).part (rC_dep _ _ _ _ _ _) (Asrt.dep_own _ _)).part (Asrt.dep_own _ _) (rrA_dep _ _ _ _ _ _)) 2 rfl rfl) ?_
        clear st h3 h2 h1
        repeat'(first|refine kv' ?_|apply jJ|refine jE' ?_|refine jp' ?_|(apply jc;kernel_rfl)|refine kg' ?_|refine kG' ?_|refine kB' fun _=>?_|refine kA' fun _=>?_|refine kK' fun _=>?_|refine kU' ?_|(apply addX;(iterate 2 exact rfl);(iterate 2(first|omega|(dsimp only;omega)));exact rfl)|((first|refine kR' ?_ ?_|refine kQ' ?_ ?_);all_goals(intro hc;try simp only[hcs]at hc;try(exfalso;first|contradiction|omega))))
        refine At.again (⟨i + 1, a3, c3⟩ : Lst) (by show i + 1 ≤ _; omega) ?_ ⟨rfl, trivial⟩ (fun w' hw' => hw') (by show k - (i + 1) < k - i; omega)
        (repeat (first | exact Out.refl _ _ | exact Out.mix | (apply Out.upd; (· exact rfl)) | (apply Out.updL; (· exact rfl)) | (apply Out.mixs; (· exact rfl))))
      · have hie : i = k := by omega
        subst hie
        repeat'(first|refine kv' ?_|apply jJ|refine jE' ?_|refine jp' ?_|(apply jc;kernel_rfl)|refine kg' ?_|refine kG' ?_|refine kB' fun _=>?_|refine kA' fun _=>?_|refine kK' fun _=>?_|refine kU' ?_|((first|refine kR' ?_ ?_|refine kQ' ?_ ?_);all_goals(intro hc;try simp only[hcs]at hc;try(exfalso;first|contradiction|omega))))
        apply end0
        · exact rfl
        intro w' hS
        rw [hr1] at hS hlen
        rw [Nat.sub_self, List.replicate_zero, List.flatten_nil, List.append_nil] at hS
        refine ⟨rfl, a1, c1, _, _, lst_fin hF hS rfl, Asrt.dep_own _ _, rfl, splice_len1 ho, fun _ => ⟨some ⟨bm, 0, none⟩, i, by rw [hlen], by simp, fun w2 h2 => own_rd h2⟩⟩
  · rw [if_pos he] at hr1
    subst hr1
    repeat'(first|(apply kA;exact rfl;intro bn)|(apply Go.Hb.kK;(iterate 4 exact rfl);intro bs)|refine kv' ?_|apply jJ|refine jE' ?_|refine jp' ?_|(apply jc;kernel_rfl)|refine kg' ?_|refine kG' ?_|refine kB' fun _=>?_|refine kA' fun _=>?_|refine kK' fun _=>?_|refine kU' ?_|(apply LR.ev; (· apply Ev.load (v := .slice none 0 0); (· exact rfl); (· refine fun w' hw' => own_cell (hw'.holds (.own b (.cells cs.toArray E (0, 0))) ?_) hz; (repeat (first | exact mH _ _ | apply mT)); done)); (· exact rfl))|(apply LR.call; (· exact rfl); (intro w1 h1; have h3 : St w F [rX bc br a c s bn [Value.int .i64 0] 3, .own bs (.cells [Value.pointer (some ⟨bn, 0, none⟩)].toArray 114 (0, 0)), .own b (.cells cs.toArray E (0, 0))] w1 := St.join (x := rC bc br a c s.1 s.2) (front (front (St.join (x := codB bc none (some ⟨br, 0, none⟩) s.2) (front (front h1 3 rfl rfl) 3 rfl rfl) rfl rfl) 2 rfl rfl) 1 rfl rfl) rfl rfl; refine (p87r bc br a c s bn [Value.int .i64 0] 3 bs [0] w1 (h3.holds _ (mH _ _)) (h3.rd_of_blk (by (repeat (first | exact mH _ _ | apply mT)))) (St.apart2 (x := .own bs (.cells _ 114 (0, 0))) h3 (.inr (by (repeat (first | exact List.Sublist.refl _ | apply List.Sublist.cons_cons | apply List.Sublist.cons)))) rfl bs rfl) (by simp) hB hm (by simp)).mono ?_; rintro v w2 ⟨a2, c2, rfl, st⟩; rw [hrd] at st; refine LR.back (((St.did h3 (Sel.head _ _ _) rfl st (rX_dep _ _ _ _ _ _ _ _)).part (rC_dep _ _ _ _ _ _) (Asrt.dep_own _ _)).part (Asrt.dep_own _ _) (rrA_dep _ _ _ _ _ _)) ?_; clear st h3 h1))|((first|refine kR' ?_ ?_|refine kQ' ?_ ?_);all_goals(intro hc;try simp only[hcs]at hc;try(exfalso;first|contradiction|omega))))
    apply ret0
    · exact rfl
    intro w' hS
    exact ⟨rfl, lst_none hF (s' := (l1, e1)) (a' := a2) (c' := c2) (cs' := cs) (hS.sub (by (repeat (first | exact List.Sublist.refl _ | apply List.Sublist.cons_cons | apply List.Sublist.cons)))) rfl he⟩
set_option maxHeartbeats 16000000 in
theorem p93r (bc br : Nat) (a : Option Addr) (c : Nat) (s : RS) (b : Nat) (cs : List Value) (E : Nat) (o : Nat) (most : Int) (w : World) (h : (rX bc br a c s b cs E).holds w) (ho : o < cs.length) (hz : cs[o]? = some (.slice none 0 0)) (hB : Byt s.1) (hm : s.1.length ≤ 281474976710656) (hmost : most ≤ 100) :
    CallsTo Tryz.prog 80 [.pointer (some ⟨bc, 0, none⟩), .pointer (some ⟨b, o, none⟩), .int .i64 most, .func (.func 81) #[] #[]] w fun v w' => v = .tuple #[] ∧ LstP bc br a c s b cs E (lstR getE most s).2
      (fun cs' X => ∃ sa sc, cs' = splice cs o [.slice sa (lstR getE most s).1.length sc] ∧ (sa = none → sc = 0) ∧ ∀ w2, X.holds w2 → Rd w2 sa ((lstR getE most s).1.flatMap Ent.cells)) w w' := by
  have hS0 := St.one h (both_live h) (rX_dep _ _ _ _ _ _ _ _)
  generalize hF : (rX bc br a c s b cs E).foot = F at hS0
  have hS1 : St w F [codB bc none (some ⟨br, 0, none⟩) s.2, rrA 142 [.bool true] br a c s.1, .own b (.cells cs.toArray E (0, 0))] w := (hS0.part (rC_dep _ _ _ _ _ _) (Asrt.dep_own _ _)).part (Asrt.dep_own _ _) (rrA_dep _ _ _ _ _ _)
  have hrd : rdN [0] [Value.int .i64 0] s = ([Value.int .i64 (getS s).1], (getS s).2) := rd_int [] [] s rfl
  have hgb := getS_byt hB
  have hgl := getS_le s
  have hgn := getS_nn s
  obtain ⟨r0, hr0⟩ : ∃ r, lstR getE most s = r := ⟨_, rfl⟩
  have hr1 := hr0
  rw [hr0]
  unfold lstR at hr1
  obtain ⟨⟨n, l1, e1⟩, hg⟩ : ∃ r, getS s = r := ⟨_, rfl⟩
  rw [hg] at hrd hgb hgl hgn hr1
  simp only at hrd hgb hgl hgn hr1
  refine go_in (n := 60) hS1 Tryz.func80 rfl rfl ?_
  by_cases he : e1 = 0
  · subst he
    rw [if_neg (by simp)] at hr1
    by_cases hn : most < n
    · rw [if_pos hn] at hr1
      subst hr1
      repeat'(first|(apply kA;exact rfl;intro bn)|(apply Go.Hb.kK;(iterate 4 exact rfl);intro bs)|refine kv' ?_|apply jJ|refine jE' ?_|refine jp' ?_|(apply jc;kernel_rfl)|refine kg' ?_|refine kG' ?_|refine kB' fun _=>?_|refine kA' fun _=>?_|refine kK' fun _=>?_|refine kU' ?_|(apply LR.ev; (· apply Ev.load (v := .slice none 0 0); (· exact rfl); (· refine fun w' hw' => own_cell (hw'.holds (.own b (.cells cs.toArray E (0, 0))) ?_) hz; (repeat (first | exact mH _ _ | apply mT)); done)); (· exact rfl))|(apply LR.call; (· exact rfl); (intro w1 h1; have h3 : St w F [rX bc br a c s bn [Value.int .i64 0] 3, .own bs (.cells [Value.pointer (some ⟨bn, 0, none⟩)].toArray 114 (0, 0)), .own b (.cells cs.toArray E (0, 0))] w1 := St.join (x := rC bc br a c s.1 s.2) (front (front (St.join (x := codB bc none (some ⟨br, 0, none⟩) s.2) (front (front h1 3 rfl rfl) 3 rfl rfl) rfl rfl) 2 rfl rfl) 1 rfl rfl) rfl rfl; refine (p87r bc br a c s bn [Value.int .i64 0] 3 bs [0] w1 (h3.holds _ (mH _ _)) (h3.rd_of_blk (by (repeat (first | exact mH _ _ | apply mT)))) (St.apart2 (x := .own bs (.cells _ 114 (0, 0))) h3 (.inr (by (repeat (first | exact List.Sublist.refl _ | apply List.Sublist.cons_cons | apply List.Sublist.cons)))) rfl bs rfl) (by simp) hB hm (by simp)).mono ?_; rintro v w2 ⟨a2, c2, rfl, st⟩; rw [hrd] at st; refine LR.back (((St.did h3 (Sel.head _ _ _) rfl st (rX_dep _ _ _ _ _ _ _ _)).part (rC_dep _ _ _ _ _ _) (Asrt.dep_own _ _)).part (Asrt.dep_own _ _) (rrA_dep _ _ _ _ _ _)) ?_; clear st h3 h1))|((first|refine kR' ?_ ?_|refine kQ' ?_ ?_);all_goals(intro hc;try simp only[hcs]at hc;try(exfalso;first|contradiction|omega))))
      apply ret0
      · exact rfl
      intro w' hS
      exact ⟨rfl, lst_none hF (s' := (l1, 5)) (a' := a2) (c' := c2) (cs' := cs) (hS.sub (by (repeat (first | exact List.Sublist.refl _ | apply List.Sublist.cons_cons | apply List.Sublist.cons)))) rfl (by simp)⟩
    · rw [if_neg hn] at hr1
      obtain ⟨k, rfl⟩ := Int.eq_ofNat_of_zero_le hgn
      rw [Int.toNat_natCast] at hr1
      have hk : k ≤ 100 := by omega
      have hst : ∀ bm : Nat, (([Value.slice (some ⟨bm, 0, none⟩) k k].all Value.oneCell' && Nat.beq 1 1 && Nat.ble (o + 1) cs.length) = true) := fun bm => by
        have h1 : Nat.ble (o + 1) cs.length = true := by simp; omega
        show ((true && true && Nat.ble (o + 1) cs.length) = true)
        rw [h1]; rfl
      repeat'(first|(apply kA;exact rfl;intro bn)|(apply Go.Hb.kK;(iterate 4 exact rfl);intro bs)|refine kv' ?_|apply jJ|refine jE' ?_|refine jp' ?_|(apply jc;kernel_rfl)|refine kg' ?_|refine kG' ?_|refine kB' fun _=>?_|refine kA' fun _=>?_|refine kK' fun _=>?_|refine kU' ?_|(apply LR.ev; (· apply Ev.load (v := .slice none 0 0); (· exact rfl); (· refine fun w' hw' => own_cell (hw'.holds (.own b (.cells cs.toArray E (0, 0))) ?_) hz; (repeat (first | exact mH _ _ | apply mT)); done)); (· exact rfl))|(apply LR.call; (· exact rfl); (intro w1 h1; have h3 : St w F [rX bc br a c s bn [Value.int .i64 0] 3, .own bs (.cells [Value.pointer (some ⟨bn, 0, none⟩)].toArray 114 (0, 0)), .own b (.cells cs.toArray E (0, 0))] w1 := St.join (x := rC bc br a c s.1 s.2) (front (front (St.join (x := codB bc none (some ⟨br, 0, none⟩) s.2) (front (front h1 3 rfl rfl) 3 rfl rfl) rfl rfl) 2 rfl rfl) 1 rfl rfl) rfl rfl; refine (p87r bc br a c s bn [Value.int .i64 0] 3 bs [0] w1 (h3.holds _ (mH _ _)) (h3.rd_of_blk (by (repeat (first | exact mH _ _ | apply mT)))) (St.apart2 (x := .own bs (.cells _ 114 (0, 0))) h3 (.inr (by (repeat (first | exact List.Sublist.refl _ | apply List.Sublist.cons_cons | apply List.Sublist.cons)))) rfl bs rfl) (by simp) hB hm (by simp)).mono ?_; rintro v w2 ⟨a2, c2, rfl, st⟩; rw [hrd] at st; refine LR.back (((St.did h3 (Sel.head _ _ _) rfl st (rX_dep _ _ _ _ _ _ _ _)).part (rC_dep _ _ _ _ _ _) (Asrt.dep_own _ _)).part (Asrt.dep_own _ _) (rrA_dep _ _ _ _ _ _)) ?_; clear st h3 h1))|(apply LR.makeSlice (m := k); (· exact rfl); (· exact rfl); (· omega); (· omega); (· exact rfl); (· exact rfl); (intro bm))|(apply kS; (· exact rfl); (· exact rfl); (· (repeat (first | exact sH _ _ _ | apply sT))); (· exact hst _))|(apply LR.ev; (· apply Ev.load (v := .slice (some ⟨bm, 0, none⟩) k k); (· exact rfl); (· refine fun w' hw' => own_cell (hw'.holds (.own b (.cells (splice cs o [.slice (some ⟨bm, 0, none⟩) k k]).toArray E (0, 0))) ?_) (splice_at ho); (repeat (first | exact mH _ _ | apply mT)); done)); (· exact rfl))|((first|refine kR' ?_ ?_|refine kQ' ?_ ?_);all_goals(intro hc;try simp only[hcs]at hc;try(exfalso;first|contradiction|omega))))
      apply CW.loop [9, 48, 49, 50, 51, 52, 53, 54, 55, 56, 57, 58, 59] (fun t : Lst => t.i ≤ k) (fun t => [(48, Value.int .i64 (t.i : Int))])
        (fun t => St w F [.own bm (.cells ((rdL getE t.i (l1, 0)).1.flatMap Ent.cells ++ (List.replicate (k - t.i) [Value.int .i64 0, .int .i64 0, .int .i64 0, .int .i64 0, .int .i64 0, .int .i64 0]).flatten).toArray 77 (0, 0)), codB bc none (some ⟨br, 0, none⟩) (rdL getE t.i (l1, 0)).2.2, rrA 142 [.bool true] br t.a t.c (rdL getE t.i (l1, 0)).2.1, .own b (.cells (splice cs o [.slice (some ⟨bm, 0, none⟩) k k]).toArray E (0, 0))]) (fun t => k - t.i)
      · exact fun w' hw' => ⟨⟨0, a2, c2⟩, Nat.zero_le _, ⟨rfl, trivial⟩, hw'.sub (L' := [.own bm (.cells (List.replicate k [Value.int .i64 0, .int .i64 0, .int .i64 0, .int .i64 0, .int .i64 0, .int .i64 0]).flatten.toArray 77 (0, 0)), codB bc none (some ⟨br, 0, none⟩) 0, rrA 142 [.bool true] br a2 c2 l1, .own b (.cells (splice cs o [.slice (some ⟨bm, 0, none⟩) k k]).toArray E (0, 0))]) (by (repeat (first | exact List.Sublist.refl _ | apply List.Sublist.cons_cons | apply List.Sublist.cons)))⟩
      rintro ⟨i, a1, c1⟩ g hi
      simp only at hi ⊢
      have hlen := rdL_len getE i (l1, 0)
      have hrl := Go.Hb.rows_len Ent.cells_len (rdL getE i (l1, 0)).1
      rw [hlen] at hrl
      have hbyt := rdL_byt (fun s => getE_byt) i (l1, 0) hgb
      have hle := rdL_le getE_le i (l1, 0)
      by_cases hlt : i < k
      · have hel : rdN (six (0 + (i : Int).toNat * 6)) ((rdL getE i (l1, 0)).1.flatMap Ent.cells ++ (List.replicate (k - i) [Value.int .i64 0, .int .i64 0, .int .i64 0, .int .i64 0, .int .i64 0, .int .i64 0]).flatten) (rdL getE i (l1, 0)).2 = ((rdL getE (i + 1) (l1, 0)).1.flatMap Ent.cells ++ (List.replicate (k - (i + 1)) [Value.int .i64 0, .int .i64 0, .int .i64 0, .int .i64 0, .int .i64 0, .int .i64 0]).flatten, (rdL getE (i + 1) (l1, 0)).2) := by
          rw [rep_succ hlt]
          refine (rd_ent _ _ _ (by rw [hrl]; simp)).trans ?_
          rw [rdL, List.flatMap_append]
          simp [Ent.cells]
        have hcl : ((rdL getE i (l1, 0)).1.flatMap Ent.cells ++ (List.replicate (k - i) [Value.int .i64 0, .int .i64 0, .int .i64 0, .int .i64 0, .int .i64 0, .int .i64 0]).flatten).length = k * 6 := by
          rw [List.length_append, hrl, rep_len6]
          show i * 6 + (k - i) * 6 = k * 6
          omega
        obtain ⟨⟨X1, s1⟩, hX1⟩ : ∃ r, rdL getE i (l1, 0) = r := ⟨_, rfl⟩
        rw [hX1] at hel hcl hbyt hle
        rw [hX1]
        simp only at hel hcl hbyt hle ⊢
        repeat'(first|refine kv' ?_|apply jJ|refine jE' ?_|refine jp' ?_|(apply jc;kernel_rfl)|refine kg' ?_|refine kG' ?_|refine kB' fun _=>?_|refine kA' fun _=>?_|refine kK' fun _=>?_|refine kU' ?_|(apply idxX;(iterate 2 exact rfl);(iterate 2(first|omega|(dsimp only;omega)));exact rfl)|(apply LR.ev; (· apply Ev.load (v := .slice (some ⟨bm, 0, none⟩) k k); (· exact rfl); (· refine fun w' hw' => own_cell (hw'.holds (.own b (.cells (splice cs o [.slice (some ⟨bm, 0, none⟩) k k]).toArray E (0, 0))) ?_) (splice_at ho); (repeat (first | exact mH _ _ | apply mT)); done)); (· exact rfl))|((first|refine kR' ?_ ?_|refine kQ' ?_ ?_);all_goals(intro hc;try simp only[hcs]at hc;try(exfalso;first|contradiction|omega))))
        apply LR.call_val (g := 81) (cap := [])
        · exact rfl
        · exact rfl
        intro w1 h1
        have h2 : St w F [rC bc br a1 c1 s1.1 s1.2, .own bm (.cells (X1.flatMap Ent.cells ++ (List.replicate (k - i) [Value.int .i64 0, .int .i64 0, .int .i64 0, .int .i64 0, .int .i64 0, .int .i64 0]).flatten).toArray 77 (0, 0)), .own b (.cells (splice cs o [.slice (some ⟨bm, 0, none⟩) k k]).toArray E (0, 0))] w1 := St.join (x := codB bc none (some ⟨br, 0, none⟩) s1.2) (front (front (front h1 1 rfl rfl) 2 rfl rfl) 1 rfl rfl) rfl rfl
        have h3 : St w F [rX bc br a1 c1 s1 bm (X1.flatMap Ent.cells ++ (List.replicate (k - i) [Value.int .i64 0, .int .i64 0, .int .i64 0, .int .i64 0, .int .i64 0, .int .i64 0]).flatten) 77, .own b (.cells (splice cs o [.slice (some ⟨bm, 0, none⟩) k k]).toArray E (0, 0))] w1 := St.join h2 rfl rfl
        refine CallsTo.mono (show CallsTo Tryz.prog 81 [.pointer (some ⟨bc, 0, none⟩), .pointer (some ⟨bm, 0 + (i : Int).toNat * 6, none⟩)] w1 _ from p94r bc br a1 c1 s1 bm _ 77 (0 + (i : Int).toNat * 6) w1 (h3.holds _ (mH _ _)) (by rw [hcl, Int.toNat_natCast]; omega) hbyt (by omega)) ?_
        rintro v w2 ⟨a3, c3, rfl, st⟩
        rw [hel] at st
        refine LR.back (front (((St.did h3 (Sel.head _ _ _) rfl st (rX_dep _ _ _ _ _ _ _ _)).part (rC_dep _ _ _ _ _ _) (Asrt.dep_own _ _)).part (Asrt.dep_own _ _) (rrA_dep _ _ _ _ _ _)) 2 rfl rfl) ?_
        clear st h3 h2 h1
        repeat'(first|refine kv' ?_|apply jJ|refine jE' ?_|refine jp' ?_|(apply jc;kernel_rfl)|refine kg' ?_|refine kG' ?_|refine kB' fun _=>?_|refine kA' fun _=>?_|refine kK' fun _=>?_|refine kU' ?_|(apply addX;(iterate 2 exact rfl);(iterate 2(first|omega|(dsimp only;omega)));exact rfl)|((first|refine kR' ?_ ?_|refine kQ' ?_ ?_);all_goals(intro hc;try simp only[hcs]at hc;try(exfalso;first|contradiction|omega))))
        refine At.again (⟨i + 1, a3, c3⟩ : Lst) (by show i + 1 ≤ _; omega) ?_ ⟨rfl, trivial⟩ (fun w' hw' => hw') (by show k - (i + 1) < k - i; omega)
        (repeat (first | exact Out.refl _ _ | exact Out.mix | (apply Out.upd; (· exact rfl)) | (apply Out.updL; (· exact rfl)) | (apply Out.mixs; (· exact rfl))))
      · have hie : i = k := by omega
        subst hie
        repeat'(first|refine kv' ?_|apply jJ|refine jE' ?_|refine jp' ?_|(apply jc;kernel_rfl)|refine kg' ?_|refine kG' ?_|refine kB' fun _=>?_|refine kA' fun _=>?_|refine kK' fun _=>?_|refine kU' ?_|((first|refine kR' ?_ ?_|refine kQ' ?_ ?_);all_goals(intro hc;try simp only[hcs]at hc;try(exfalso;first|contradiction|omega))))
        apply end0
        · exact rfl
        intro w' hS
        rw [hr1] at hS hlen
        rw [Nat.sub_self, List.replicate_zero, List.flatten_nil, List.append_nil] at hS
        refine ⟨rfl, a1, c1, _, _, lst_fin hF hS rfl, Asrt.dep_own _ _, rfl, splice_len1 ho, fun _ => ⟨some ⟨bm, 0, none⟩, i, by rw [hlen], by simp, fun w2 h2 => own_rd h2⟩⟩
  · rw [if_pos he] at hr1
    subst hr1
    repeat'(first|(apply kA;exact rfl;intro bn)|(apply Go.Hb.kK;(iterate 4 exact rfl);intro bs)|refine kv' ?_|apply jJ|refine jE' ?_|refine jp' ?_|(apply jc;kernel_rfl)|refine kg' ?_|refine kG' ?_|refine kB' fun _=>?_|refine kA' fun _=>?_|refine kK' fun _=>?_|refine kU' ?_|(apply LR.ev; (· apply Ev.load (v := .slice none 0 0); (· exact rfl); (· refine fun w' hw' => own_cell (hw'.holds (.own b (.cells cs.toArray E (0, 0))) ?_) hz; (repeat (first | exact mH _ _ | apply mT)); done)); (· exact rfl))|(apply LR.call; (· exact rfl); (intro w1 h1; have h3 : St w F [rX bc br a c s bn [Value.int .i64 0] 3, .own bs (.cells [Value.pointer (some ⟨bn, 0, none⟩)].toArray 114 (0, 0)), .own b (.cells cs.toArray E (0, 0))] w1 := St.join (x := rC bc br a c s.1 s.2) (front (front (St.join (x := codB bc none (some ⟨br, 0, none⟩) s.2) (front (front h1 3 rfl rfl) 3 rfl rfl) rfl rfl) 2 rfl rfl) 1 rfl rfl) rfl rfl; refine (p87r bc br a c s bn [Value.int .i64 0] 3 bs [0] w1 (h3.holds _ (mH _ _)) (h3.rd_of_blk (by (repeat (first | exact mH _ _ | apply mT)))) (St.apart2 (x := .own bs (.cells _ 114 (0, 0))) h3 (.inr (by (repeat (first | exact List.Sublist.refl _ | apply List.Sublist.cons_cons | apply List.Sublist.cons)))) rfl bs rfl) (by simp) hB hm (by simp)).mono ?_; rintro v w2 ⟨a2, c2, rfl, st⟩; rw [hrd] at st; refine LR.back (((St.did h3 (Sel.head _ _ _) rfl st (rX_dep _ _ _ _ _ _ _ _)).part (rC_dep _ _ _ _ _ _) (Asrt.dep_own _ _)).part (Asrt.dep_own _ _) (rrA_dep _ _ _ _ _ _)) ?_; clear st h3 h1))|((first|refine kR' ?_ ?_|refine kQ' ?_ ?_);all_goals(intro hc;try simp only[hcs]at hc;try(exfalso;first|contradiction|omega))))
    apply ret0
    · exact rfl
    intro w' hS
    exact ⟨rfl, lst_none hF (s' := (l1, e1)) (a' := a2) (c' := c2) (cs' := cs) (hS.sub (by (repeat (first | exact List.Sublist.refl _ | apply List.Sublist.cons_cons | apply List.Sublist.cons)))) rfl he⟩
end Go.Proofs.YtkolmkdbjagfcaaGreat

namespace Go.Proofs.YtkolmkdbjagfcaaGreat
open Go.Hb
attribute [local irreducible] LR CW At Ev thn blk finK noG again CallsTo DW QL dnext TW DP
set_option linter.unusedSimpArgs false
set_option linter.unusedVariables false
set_option maxRecDepth 100000

def msgR (s : RS) : Msg × RS :=
  if s.2 ≠ 0 then (zeroMsg, s)
  else if (octs 512 s.1).2.1 ≠ 0 then (zeroMsg, ((octs 512 s.1).2.2, (octs 512 s.1).2.1))
  else ((unpack (octs 512 s.1).1).1, ((octs 512 s.1).2.2, (unpack (octs 512 s.1).1).2))
theorem octs_rest (most : Int) (l : List Int) : (∃ n, (octs most l).2.2 = l.drop n) := by
  unfold octs
  repeat' split
  all_goals first | exact ⟨_, rfl⟩ | exact ⟨0, rfl⟩
set_option maxHeartbeats 8000000 in
theorem p90r (bc br : Nat) (a : Option Addr) (c : Nat) (s : RS) (b : Nat) (cs : List Value) (E : Nat) (o : Nat) (w : World) (h : (rX bc br a c s b cs E).holds w) (ho : o + 13 ≤ cs.length) (hB : Byt s.1) (hm : s.1.length ≤ 140737488355328) :
    CallsTo Tryz.prog 77 [.pointer (some ⟨bc, 0, none⟩), .pointer (some ⟨b, o, none⟩)] w fun v w' => v = .tuple #[] ∧ LstP bc br a c s b cs E (msgR s).2
      (fun cs' X => ∃ ma mc, cs' = splice cs o ((msgR s).1.cells ma mc) ∧ (ma = none → mc = 0) ∧ (∀ w2, X.holds w2 → Rd w2 ma (bv (msgR s).1.body)) ∧ X = osl (.slice ma (msgR s).1.body.length mc) 5 1 (msgR s).1.body.length (bv (msgR s).1.body)) w w' := by
  have hS0 := St.one h (both_live h) (rX_dep _ _ _ _ _ _ _ _)
  generalize hF : (rX bc br a c s b cs E).foot = F at hS0
  have hS1 : St w F [codB bc none (some ⟨br, 0, none⟩) s.2, rrA 142 [.bool true] br a c s.1, .own b (.cells cs.toArray E (0, 0))] w := (hS0.part (rC_dep _ _ _ _ _ _) (Asrt.dep_own _ _)).part (Asrt.dep_own _ _) (rrA_dep _ _ _ _ _ _)
  obtain ⟨r0, hr0⟩ : ∃ r, msgR s = r := ⟨_, rfl⟩
  have hr1 := hr0
  rw [hr0]
  unfold msgR at hr1
  obtain ⟨l, e⟩ := s
  simp only at hr1 hS1 hB hm
  refine go_in (n := 65) hS1 Tryz.func77 rfl rfl ?_
  by_cases he : e = 0
  · subst he
    rw [if_neg (by simp)] at hr1
    have hof := @octs_facts 512 l
    obtain ⟨⟨ob, oe, orr⟩, hoc⟩ : ∃ r, octs 512 l = r := ⟨_, rfl⟩
    rw [hoc] at hr1 hof
    simp only at hr1 hof
    by_cases ho1 : oe = 0
    · subst ho1
      rw [if_neg (by simp)] at hr1
      have hof := hof rfl
      have hob : Byt ob := fun x hx => hB x (hof.2 x hx)
      obtain ⟨⟨m, e2⟩, hu⟩ : ∃ r, unpack ob = r := ⟨_, rfl⟩
      rw [hu] at hr1
      simp only at hr1
      subst hr1
      have hst : ∀ (ma : Option Addr) (mc : Nat), (((m.cells ma mc).all Value.oneCell' && Nat.beq (m.cells ma mc).length 13 && Nat.ble (o + (m.cells ma mc).length) cs.length) = true) := fun ma mc => by
        have h1 : Nat.ble (o + 13) cs.length = true := by simpa using ho
        show ((true && true && Nat.ble (o + 13) cs.length) = true)
        rw [h1]; rfl
      repeat'(first|refine kv' ?_|apply jJ|refine jE' ?_|refine jp' ?_|(apply jc;kernel_rfl)|refine kg' ?_|refine kG' ?_|refine kB' fun _=>?_|refine kA' fun _=>?_|refine kK' fun _=>?_|refine kU' ?_|(apply LR.call; (· exact rfl); (intro w1 h1; refine CallsTo.mono (show CallsTo Tryz.prog 109 [.pointer (some ⟨br, 0, none⟩), .int .i64 512] w1 _ from c67 br a c l 512 w1 (h1.holds (rrA 142 [.bool true] br a c l) (by (repeat (first | exact mH _ _ | apply mT)))) hB hm) ?_; rw [hoc]; rintro v w2 ⟨a1, c1, a2, c2, hv, st⟩; replace hv : v = .tuple [.slice a2 ob.length c2, .int .i64 0].toArray := hv; subst hv; have h5 : St w F [rrA 142 [.bool true] br a1 c1 orr, osl (.slice a2 ob.length c2) 5 1 ob.length (bv ob), codB bc none (some ⟨br, 0, none⟩) 0, .own b (.cells cs.toArray E (0, 0))] w2 := (front (St.did h1 (by (repeat (first | exact sH _ _ _ | apply sT))) rfl (St.step (a := rrA 142 [.bool true] br a c l) (St.join st rfl rfl) rfl) (both_dep (rrA_dep _ _ _ _ _ _) (osl.dep _ _ _ _ _))) 1 rfl rfl).part (rrA_dep _ _ _ _ _ _) (osl.dep _ _ _ _ _); refine LR.back h5 ?_; clear st h1 h5))|(apply LR.call; (· exact rfl); (intro w1 h1; refine CallsTo.mono (show CallsTo Tryz.prog 110 [.slice a2 ob.length c2] w1 _ from d23 a2 c2 ob w1 (h1.rd_of_own (by (repeat (first | exact mH _ _ | apply mT)))) (fun e => (ownsRow_some (h1.holds (osl (.slice a2 ob.length c2) 5 1 ob.length (bv ob)) (by (repeat (first | exact mH _ _ | apply mT)))) e).2) (by omega) hob) ?_; rw [hu]; rintro v w2 ⟨a3, c3, hv, hn⟩; replace hv : v = .tuple [m.val a3 c3, .int .i64 e2].toArray := hv; subst hv; replace hn : NewSl w1 w2 (.slice a3 m.body.length c3) 5 1 m.body.length (bv m.body) := hn; refine LR.back (h1.newSl hn) ?_; clear hn h1))|(apply kS (vs := m.cells a3 c3); (· exact rfl); (· exact rfl); (· (repeat (first | exact sH _ _ _ | apply sT))); (· exact hst _ _))|((first|refine kR' ?_ ?_|refine kQ' ?_ ?_);all_goals(intro hc;try simp only[hcs]at hc;try(exfalso;first|contradiction|omega))))
      apply end0
      · exact rfl
      intro w' hS
      have h1 : St w F [osl (.slice a3 m.body.length c3) 5 1 m.body.length (bv m.body), codB bc none (some ⟨br, 0, none⟩) e2, rrA 142 [.bool true] br a1 c1 orr, .own b (.cells (splice cs o (m.cells a3 c3)).toArray E (0, 0))] w' := (front (front (hS.sub (L' := [osl (.slice a3 m.body.length c3) 5 1 m.body.length (bv m.body), rrA 142 [.bool true] br a1 c1 orr, codB bc none (some ⟨br, 0, none⟩) e2, .own b (.cells (splice cs o (m.cells a3 c3)).toArray E (0, 0))]) (by (repeat (first | exact List.Sublist.refl _ | apply List.Sublist.cons_cons | apply List.Sublist.cons)))) 2 rfl rfl) 1 rfl rfl)
      refine ⟨rfl, a1, c1, _, _, lst_fin (s' := (orr, e2)) hF h1 rfl, osl.dep _ _ _ _ _, rfl, ?_, fun _ => ⟨a3, c3, rfl, fun e => (ownsRow_some h1.g0 e).2, fun w2 h2 => ownsRow_rd h2, rfl⟩⟩
      unfold splice
      simp only [List.length_append, List.length_take, List.length_drop]
      show min o cs.length + 13 + (cs.length - (o + 13)) = cs.length
      omega
    · rw [if_pos ho1] at hr1
      subst hr1
      repeat'(first|refine kv' ?_|apply jJ|refine jE' ?_|refine jp' ?_|(apply jc;kernel_rfl)|refine kg' ?_|refine kG' ?_|refine kB' fun _=>?_|refine kA' fun _=>?_|refine kK' fun _=>?_|refine kU' ?_|(apply LR.call; (· exact rfl); (intro w1 h1; refine CallsTo.mono (show CallsTo Tryz.prog 109 [.pointer (some ⟨br, 0, none⟩), .int .i64 512] w1 _ from c67 br a c l 512 w1 (h1.holds (rrA 142 [.bool true] br a c l) (by (repeat (first | exact mH _ _ | apply mT)))) hB hm) ?_; rw [hoc]; rintro v w2 ⟨a1, c1, a2, c2, hv, st⟩; replace hv : v = .tuple [.slice a2 ob.length c2, .int .i64 oe].toArray := hv; subst hv; have h5 : St w F [rrA 142 [.bool true] br a1 c1 orr, osl (.slice a2 ob.length c2) 5 1 ob.length (bv ob), codB bc none (some ⟨br, 0, none⟩) 0, .own b (.cells cs.toArray E (0, 0))] w2 := (front (St.did h1 (by (repeat (first | exact sH _ _ _ | apply sT))) rfl (St.step (a := rrA 142 [.bool true] br a c l) (St.join st rfl rfl) rfl) (both_dep (rrA_dep _ _ _ _ _ _) (osl.dep _ _ _ _ _))) 1 rfl rfl).part (rrA_dep _ _ _ _ _ _) (osl.dep _ _ _ _ _); refine LR.back h5 ?_; clear st h1 h5))|((first|refine kR' ?_ ?_|refine kQ' ?_ ?_);all_goals(intro hc;try simp only[hcs]at hc;try(exfalso;first|contradiction|omega))))
      apply end0
      · exact rfl
      intro w' hS
      have h1 : St w F [codB bc none (some ⟨br, 0, none⟩) oe, rrA 142 [.bool true] br a1 c1 orr, .own b (.cells cs.toArray E (0, 0))] w' := front (hS.sub (L' := [rrA 142 [.bool true] br a1 c1 orr, codB bc none (some ⟨br, 0, none⟩) oe, .own b (.cells cs.toArray E (0, 0))]) (by (repeat (first | exact List.Sublist.refl _ | apply List.Sublist.cons_cons | apply List.Sublist.cons)))) 1 rfl rfl
      exact ⟨rfl, lst_none hF (s' := (orr, oe)) (a' := a1) (c' := c1) (cs' := cs) h1 rfl ho1⟩
  · rw [if_pos he] at hr1
    subst hr1
    repeat'(first|refine kv' ?_|apply jJ|refine jE' ?_|refine jp' ?_|(apply jc;kernel_rfl)|refine kg' ?_|refine kG' ?_|refine kB' fun _=>?_|refine kA' fun _=>?_|refine kK' fun _=>?_|refine kU' ?_|((first|refine kR' ?_ ?_|refine kQ' ?_ ?_);all_goals(intro hc;try simp only[hcs]at hc;try(exfalso;first|contradiction|omega))))
    apply ret0
    · exact rfl
    intro w' hS
    exact ⟨rfl, lst_none hF (s' := (l, e)) (a' := a) (c' := c) (cs' := cs) hS rfl he⟩
end Go.Proofs.YtkolmkdbjagfcaaGreat

namespace Go.Proofs.YtkolmkdbjagfcaaGreat
open Go.Hb
attribute [local irreducible] LR CW At Ev thn blk finK noG again CallsTo DW QL dnext TW DP
set_option linter.unusedSimpArgs false
set_option linter.unusedVariables false
set_option maxRecDepth 100000

def zTkn : Tkn := ⟨0, 0, 0, 0, 0, 0, 0, 0, []⟩
def zCmt : Cmt := ⟨0, 0, 0, 0, []⟩
def zPkt : Pkt := ⟨0, 0, zeroDat, zTkn, 0, 0, 0, zCmt, 0, 0, 0⟩
def zA : PAd := ⟨none, 0, none, 0, none, 0⟩
def gV (s : RS) : Int := (getS s).1
def gT (s : RS) : RS := (getS s).2
def startS (k : Int) (s : RS) : RS := if s.2 = 0 ∧ ¬ (1 ≤ k ∧ k ≤ 5) then (s.1, 4) else s
def parseK (k tt : Int) (u : RS) : Pkt × RS :=
  if k = 1 then (({ zPkt with kind := k, to := tt, d := { zeroDat with rseq := gV u, rrep := gV (gT u), seq := gV (gT (gT u)), sender := gV (gT (gT (gT u))), stamp := gV (gT (gT (gT (gT u)))), msg := (msgR (gT (gT (gT (gT (gT u)))))).1 } } : Pkt), (msgR (gT (gT (gT (gT (gT u)))))).2)
  else if k = 2 then (({ zPkt with kind := k, to := tt, t := { zTkn with r1 := gV u, r2 := gV (gT u), hop := gV (gT (gT u)), seq := gV (gT (gT (gT u))), aru := gV (gT (gT (gT (gT u)))), low := gV (gT (gT (gT (gT (gT u))))), stamp := gV (gT (gT (gT (gT (gT (gT u)))))), idle := gV (gT (gT (gT (gT (gT (gT (gT u))))))), ask := (lstR getS 16 (gT (gT (gT (gT (gT (gT (gT (gT u))))))))).1 } } : Pkt), (lstR getS 16 (gT (gT (gT (gT (gT (gT (gT (gT u))))))))).2)
  else if k = 3 then (({ zPkt with kind := k, to := tt, j1 := gV u, j2 := gV (gT u), j3 := gV (gT (gT u)) } : Pkt), (gT (gT (gT u))))
  else if k = 4 then (({ zPkt with kind := k, to := tt, c := { zCmt with r1 := gV u, r2 := gV (gT u), mem := gV (gT (gT u)), hop := gV (gT (gT (gT u))), ents := (lstR getE 8 (gT (gT (gT (gT u))))).1 } } : Pkt), (lstR getE 8 (gT (gT (gT (gT u))))).2)
  else if k = 5 then (({ zPkt with kind := k, to := tt, b1 := gV u, b2 := gV (gT u), b3 := gV (gT (gT u)) } : Pkt), (gT (gT (gT u))))
  else (({ zPkt with kind := k, to := tt } : Pkt), u)
def parseP (s : RS) : Pkt × RS := parseK (gV s) (gV (startS (gV s) (gT s))) (gT (startS (gV s) (gT s)))
theorem rd_cons {cs : List Value} {o : Nat} {os : List Nat} {s : RS} (h : cs[o]? = some (.int .i64 0)) : rdN (o :: os) cs s = rdN os (cs.set o (.int .i64 (gV s))) (gT s) := by
  unfold gV gT
  by_cases he : s.2 = 0
  · rw [rdN, if_neg (by simp [he])]
  · rw [rdN_err _ _ _ he, getS_err he]
    simp only
    have e : cs.set o (.int .i64 0) = cs := by
      apply List.ext_getElem?
      intro i
      rw [List.getElem?_set]
      split
      · rename_i hi
        subst hi
        rw [h]
        have := (List.getElem?_eq_some_iff.1 h).1
        rw [if_pos this]
      · rfl
    rw [e, rdN_err _ _ _ he]
structure PktM (w : World) (p : Pkt) (A : PAd) : Prop where
  hd : Rd w A.da (bv p.d.msg.body)
  hdz : A.da = none → A.dc = 0
  ht : Rd w A.ta (iv p.t.ask)
  htz : A.ta = none → A.tc = 0
  hc : Rd w A.ca (p.c.ents.flatMap Ent.cells)
  hcz : A.ca = none → A.cc = 0
/-- A message's body lies in what is new. -/
def BodX (X : Asrt) (p : Pkt) (A : PAd) : Prop := p.d.msg.body ≠ [] → X = osl (.slice A.da p.d.msg.body.length A.dc) 5 1 p.d.msg.body.length (bv p.d.msg.body)
theorem rX_cell {bc br : Nat} {a : Option Addr} {c : Nat} {s : RS} {b : Nat} {cs : List Value} {E j : Nat} {v : Value} {w : World} (h : (rX bc br a c s b cs E).holds w) (hj : cs[j]? = some v) : w.cell? ⟨b, j, none⟩ = some v := own_cell h.2.1 hj
theorem rX_e {bc br : Nat} {a : Option Addr} {c : Nat} {s : RS} {b : Nat} {cs : List Value} {E : Nat} {w : World} (h : (rX bc br a c s b cs E).holds w) : w.cell? ⟨bc, 2, none⟩ = some (.int .i64 s.2) := cell_own h.1.1
theorem rX_r {bc br : Nat} {a : Option Addr} {c : Nat} {s : RS} {b : Nat} {cs : List Value} {E : Nat} {w : World} (h : (rX bc br a c s b cs E).holds w) : w.cell? ⟨bc, 1, none⟩ = some (.pointer (some ⟨br, 0, none⟩)) := cell_own h.1.1
theorem lst_end {w w' : World} {F : Nat → Prop} {bc br : Nat} {a a' : Option Addr} {c c' : Nat} {s s' : RS} {b : Nat} {cs cs' : List Value} {E : Nat} {good : List Value → Asrt → Prop} {R : List Asrt} (hF : (rX bc br a c s b cs E).foot = F) (hS : St w F (rX bc br a' c' s' b cs' E :: R) w') (hl : cs'.length = cs.length) (hg : s'.2 = 0 → good cs' (osl (.slice none 0 0) 3 1 0 (iv []))) : LstP bc br a c s b cs E s' good w w' := by
  subst hF
  exact ⟨a', c', cs', _, (St.join (front (hS.nilsl 3 1) 1 rfl rfl) rfl rfl).step rfl, osl.dep _ _ _ _ _, rfl, hl, hg⟩
theorem lst_end2 {w w' : World} {F : Nat → Prop} {bc br : Nat} {a a' : Option Addr} {c c' : Nat} {s s' : RS} {b : Nat} {cs cs' : List Value} {E : Nat} {good : List Value → Asrt → Prop} {X : Asrt} {R : List Asrt} (hF : (rX bc br a c s b cs E).foot = F) (hS : St w F (both (rX bc br a' c' s' b cs' E) X :: R) w') (hd : X.dep) (hx : X.excl = true) (hl : cs'.length = cs.length) (hg : s'.2 = 0 → good cs' X) : LstP bc br a c s b cs E s' good w w' := by
  subst hF
  exact ⟨a', c', cs', X, hS.step (by rfl), hd, hx, hl, hg⟩
set_option maxHeartbeats 16000000 in
theorem p55r (bc br : Nat) (a : Option Addr) (c : Nat) (s : RS) (bp : Nat) (w : World) (h : (rX bc br a c s bp (zPkt.cells zA) 42).holds w) (hB : Byt s.1) (hm : s.1.length ≤ 140737488355328) :
    CallsTo Tryz.prog 26 [.pointer (some ⟨bc, 0, none⟩), .pointer (some ⟨bp, 0, none⟩)] w fun v w' => v = .tuple #[] ∧ LstP bc br a c s bp (zPkt.cells zA) 42 (parseP s).2
      (fun cs' X => ∃ A, cs' = (parseP s).1.cells A ∧ (∀ w2, X.holds w2 → PktM w2 (parseP s).1 A) ∧ BodX X (parseP s).1 A) w w' := by
  have hS0 := St.one h (both_live h) (rX_dep _ _ _ _ _ _ _ _)
  generalize hF : (rX bc br a c s bp (zPkt.cells zA) 42).foot = F at hS0
  have hB0 : Byt s.1 ∧ s.1.length ≤ 281474976710656 := ⟨hB, by omega⟩
  have BB : ∀ (os : List Nat) (cs : List Value) {x : RS}, Byt x.1 ∧ x.1.length ≤ 140737488355328 → Byt (rdN os cs x).2.1 ∧ (rdN os cs x).2.1.length ≤ 140737488355328 := fun os cs x hx => ⟨rdN_byt os cs x hx.1, Nat.le_trans (rdN_le os cs x) hx.2⟩
  have W : ∀ {x : RS}, Byt x.1 ∧ x.1.length ≤ 140737488355328 → Byt x.1 ∧ x.1.length ≤ 281474976710656 := fun hx => ⟨hx.1, by omega⟩
  obtain ⟨r0, hr0⟩ : ∃ r, parseP s = r := ⟨_, rfl⟩
  have hr1 := hr0
  rw [hr0]
  unfold parseP at hr1
  obtain ⟨k, hk⟩ : ∃ k, gV s = k := ⟨_, rfl⟩
  obtain ⟨⟨l0, e0⟩, hs0⟩ : ∃ r, gT s = r := ⟨_, rfl⟩
  have q0 : rdN [0] (zPkt.cells zA) s = ((({ zPkt with kind := k } : Pkt).cells zA), (l0, e0)) := (rd_cons rfl).trans (by rw [hk, hs0]; rfl)
  have b0 := BB [0] (zPkt.cells zA) ⟨hB, hm⟩
  rw [q0] at b0
  rw [hk, hs0] at hr1
  refine go_in (n := 158) hS0 Tryz.func26 rfl rfl ?_
  by_cases hbad : e0 = 0 ∧ ¬ (1 ≤ k ∧ k ≤ 5)
  · obtain ⟨he, hkk⟩ := hbad
    subst he
    have e1 : startS k (l0, 0) = (l0, 4) := by unfold startS; rw [if_pos ⟨rfl, hkk⟩]
    have e2 : getS (l0, 4) = (0, (l0, 4)) := getS_err (by simp)
    rw [e1] at hr1
    unfold gV gT parseK at hr1
    rw [e2, if_neg (by omega), if_neg (by omega), if_neg (by omega), if_neg (by omega), if_neg (by omega)] at hr1
    subst hr1
    repeat'(first|(apply Go.Hb.kK;(iterate 4 exact rfl);intro bs)|refine kv' ?_|apply jJ|refine jE' ?_|refine jp' ?_|(apply jc;kernel_rfl)|refine kg' ?_|refine kG' ?_|refine kB' fun _=>?_|refine kA' fun _=>?_|refine kK' fun _=>?_|refine kU' ?_|(apply LR.call; (· exact rfl); (intro w1 h1; first | (refine (p87r bc br a c s bp (zPkt.cells zA) 42 bs [0] w1 (h1.holds (rX bc br _ _ s bp (zPkt.cells zA) 42) (by (repeat (first | exact mH _ _ | apply mT)))) (h1.rd_of_blk (by (repeat (first | exact mH _ _ | apply mT)))) (St.apart2 (x := .own bs (.cells _ 114 (0, 0))) h1 (.inl (by (repeat (first | exact List.Sublist.refl _ | apply List.Sublist.cons_cons | apply List.Sublist.cons)))) rfl bs rfl) (fun o ho => (show ∀ o ∈ ([0] : List Nat), o < 40 by decide) o ho) hB0.1 hB0.2 (by simp)).mono ?_; rintro v w2 ⟨a2, c2, rfl, st⟩; rw [q0] at st; refine LR.back (St.did h1 (by (repeat (first | exact sH _ _ _ | apply sT))) rfl st (rX_dep _ _ _ _ _ _ _ _)) ?_; clear st h1)))|(apply LR.ev; (· apply Ev.load (v := .int .i64 0); (· exact rfl); (· intro w' hw'; apply rX_e (br := br) (s := (l0, 0)) (b := bp) (cs := (({ zPkt with kind := k } : Pkt).cells zA)) (E := 42); apply hw'.holds; (repeat (first | exact mH _ _ | apply mT)); done)); (· exact rfl))|(apply LR.ev; (· apply Ev.load (v := .int .i64 k); (· exact rfl); (· intro w' hw'; apply rX_cell (br := br) (s := (l0, 0)) (b := bp) (cs := (({ zPkt with kind := k } : Pkt).cells zA)) (E := 42) (j := 0); (· apply hw'.holds; (repeat (first | exact mH _ _ | apply mT)); done); (· exact rfl))); (· exact rfl))|(apply kq; (· exact rfl); (· intro w1 h1; exact CallsTo.q (p88 k 1 5 w1) h1))|((first|refine kR' ?_ ?_|refine kQ' ?_ ?_);all_goals(intro hc;try simp only[hcs]at hc;try(exfalso;first|contradiction|omega))))
    refine LR.sub (D := St w F [codB bc none (some ⟨br, 0, none⟩) 0, rrA 142 [.bool true] br a2 c2 l0, .own bp (.cells (({ zPkt with kind := k } : Pkt).cells zA).toArray 42 (0, 0))]) (fun w' hw' => ((hw'.sub (L' := [rX bc br a2 c2 (l0, 0) bp (({ zPkt with kind := k } : Pkt).cells zA) 42]) (by (repeat (first | exact List.Sublist.refl _ | apply List.Sublist.cons_cons | apply List.Sublist.cons)))).part (rC_dep _ _ _ _ _ _) (Asrt.dep_own _ _)).part (Asrt.dep_own _ _) (rrA_dep _ _ _ _ _ _)) ?_
    repeat'(first|(apply Go.Hb.kK;(iterate 4 exact rfl);intro bs2)|refine kv' ?_|apply jJ|refine jE' ?_|refine jp' ?_|(apply jc;kernel_rfl)|refine kg' ?_|refine kG' ?_|refine kB' fun _=>?_|refine kA' fun _=>?_|refine kK' fun _=>?_|refine kU' ?_|((first|refine kR' ?_ ?_|refine kQ' ?_ ?_);all_goals(intro hc;try simp only[hcs]at hc;try(exfalso;first|contradiction|omega))))
    apply LR.call
    · exact rfl
    intro w1 h1
    have h3 : St w F [rX bc br a2 c2 (l0, 4) bp (({ zPkt with kind := k } : Pkt).cells zA) 42, .own bs2 (.cells [Value.pointer (some ⟨bp, 1, none⟩)].toArray 114 (0, 0))] w1 := front (St.join (x := rC bc br a2 c2 l0 4) (front (front (St.join (x := codB bc none (some ⟨br, 0, none⟩) 4) (front (front h1 2 rfl rfl) 2 rfl rfl) rfl rfl) 2 rfl rfl) 1 rfl rfl) rfl rfl) 0 rfl rfl
    refine (p87r bc br a2 c2 (l0, 4) bp (({ zPkt with kind := k } : Pkt).cells zA) 42 bs2 [1] w1 (h3.holds _ (mH _ _)) (h3.rd_of_blk (by (repeat (first | exact mH _ _ | apply mT)))) (St.apart2 (x := .own bs2 (.cells _ 114 (0, 0))) h3 (.inr (by (repeat (first | exact List.Sublist.refl _ | apply List.Sublist.cons_cons | apply List.Sublist.cons)))) rfl bs2 rfl) (fun o ho => (show ∀ o ∈ ([1] : List Nat), o < 40 by decide) o ho) (W b0).1 (W b0).2 (by simp)).mono ?_
    rintro v w2 ⟨a3, c3, rfl, st⟩
    rw [rdN_err _ _ _ (by simp)] at st
    refine LR.back (St.did h3 (Sel.head _ _ _) rfl st (rX_dep _ _ _ _ _ _ _ _)) ?_
    clear st h3 h1
    repeat'(first|refine kv' ?_|apply jJ|refine jE' ?_|refine jp' ?_|(apply jc;kernel_rfl)|refine kg' ?_|refine kG' ?_|refine kB' fun _=>?_|refine kA' fun _=>?_|refine kK' fun _=>?_|refine kU' ?_|(apply LR.ev; (· apply Ev.load (v := .int .i64 k); (· exact rfl); (· intro w' hw'; apply rX_cell (br := br) (s := (l0, 4)) (b := bp) (cs := (({ zPkt with kind := k } : Pkt).cells zA)) (E := 42) (j := 0); (· apply hw'.holds; (repeat (first | exact mH _ _ | apply mT)); done); (· exact rfl))); (· exact rfl))|((first|refine kR' ?_ ?_|refine kQ' ?_ ?_);all_goals(intro hc;try simp only[hcs]at hc;try(exfalso;first|contradiction|omega))))
    apply end0
    · exact rfl
    intro w' hS
    exact ⟨rfl, lst_end hF hS rfl (fun h0 => absurd h0 (by simp))⟩
  · have e1 : startS k (l0, e0) = (l0, e0) := by unfold startS; rw [if_neg hbad]
    rw [e1] at hr1
    obtain ⟨tt, htt⟩ : ∃ k, gV (l0, e0) = k := ⟨_, rfl⟩
    obtain ⟨u, hu⟩ : ∃ r, gT (l0, e0) = r := ⟨_, rfl⟩
    rw [htt, hu] at hr1
    have q1 : rdN [1] (({ zPkt with kind := k } : Pkt).cells zA) (l0, e0) = ((({ zPkt with kind := k, to := tt } : Pkt).cells zA), u) := (rd_cons rfl).trans (by rw [htt, hu]; rfl)
    have b1 := BB [1] (({ zPkt with kind := k } : Pkt).cells zA) b0
    rw [q1] at b1
    unfold parseK at hr1
    by_cases hk1 : k = 1
    · rw [if_pos hk1] at hr1
      subst hr1
      have q2 : rdN [2, 3] (({ zPkt with kind := k, to := tt } : Pkt).cells zA) u = ((({ zPkt with kind := k, to := tt, d := { zeroDat with rseq := gV u, rrep := gV (gT u) } } : Pkt).cells zA), (gT (gT u))) := (rd_cons rfl).trans ((rd_cons rfl).trans (rfl))
      have b2 := BB [2, 3] (({ zPkt with kind := k, to := tt } : Pkt).cells zA) b1
      rw [q2] at b2
      have q3 : rdN [4, 5, 6] (({ zPkt with kind := k, to := tt, d := { zeroDat with rseq := gV u, rrep := gV (gT u) } } : Pkt).cells zA) (gT (gT u)) = ((({ zPkt with kind := k, to := tt, d := { zeroDat with rseq := gV u, rrep := gV (gT u), seq := gV (gT (gT u)), sender := gV (gT (gT (gT u))), stamp := gV (gT (gT (gT (gT u)))) } } : Pkt).cells zA), (gT (gT (gT (gT (gT u)))))) := (rd_cons rfl).trans ((rd_cons rfl).trans ((rd_cons rfl).trans (rfl)))
      have b3 := BB [4, 5, 6] (({ zPkt with kind := k, to := tt, d := { zeroDat with rseq := gV u, rrep := gV (gT u) } } : Pkt).cells zA) b2
      rw [q3] at b3
      repeat'(first|(apply CW.reg_held (St w F []))|(apply Go.Hb.kK;(iterate 4 exact rfl);intro bs)|refine kv' ?_|apply jJ|refine jE' ?_|refine jp' ?_|(apply jc;kernel_rfl)|refine kg' ?_|refine kG' ?_|refine kB' fun _=>?_|refine kA' fun _=>?_|refine kK' fun _=>?_|refine kU' ?_|(apply LR.ev; (· apply Ev.load (v := .int .i64 e0); (· exact rfl); (· intro w' hw'; apply rX_e (br := br) (s := (l0, e0)) (b := bp) (cs := (({ zPkt with kind := k } : Pkt).cells zA)) (E := 42); apply hw'.holds; (repeat (first | exact mH _ _ | apply mT)); done)); (· exact rfl))|(apply LR.ev; (· apply Ev.load (v := .int .i64 k); (· exact rfl); (· intro w' hw'; apply rX_cell (br := br) (s := (l0, e0)) (b := bp) (cs := (({ zPkt with kind := k } : Pkt).cells zA)) (E := 42) (j := 0); (· apply hw'.holds; (repeat (first | exact mH _ _ | apply mT)); done); (· exact rfl))); (· exact rfl))|(apply LR.ev; (· apply Ev.load (v := .int .i64 k); (· exact rfl); (· intro w' hw'; apply rX_cell (br := br) (s := u) (b := bp) (cs := (({ zPkt with kind := k, to := tt } : Pkt).cells zA)) (E := 42) (j := 0); (· apply hw'.holds; (repeat (first | exact mH _ _ | apply mT)); done); (· exact rfl))); (· exact rfl))|(apply kq; (· exact rfl); (· intro w1 h1; exact CallsTo.q (p88 k 1 5 w1) h1))|(apply LR.call; (· exact rfl); (intro w1 h1; first | (refine (p87r bc br _ _ s bp (zPkt.cells zA) 42 bs [0] w1 (h1.holds (rX bc br _ _ s bp (zPkt.cells zA) 42) (by (repeat (first | exact mH _ _ | apply mT)))) (h1.rd_of_blk (by (repeat (first | exact mH _ _ | apply mT)))) (St.apart2 (x := .own bs (.cells _ 114 (0, 0))) h1 (.inl (by (repeat (first | exact List.Sublist.refl _ | apply List.Sublist.cons_cons | apply List.Sublist.cons)))) rfl bs rfl) (fun o ho => (show ∀ o ∈ ([0] : List Nat), o < 40 by decide) o ho) hB0.1 hB0.2 (by simp)).mono ?_; rintro v w2 ⟨_, _, rfl, st⟩; rw [q0] at st; refine LR.back (St.did h1 (by (repeat (first | exact sH _ _ _ | apply sT))) rfl st (rX_dep _ _ _ _ _ _ _ _)) ?_; clear st h1) | (refine (p87r bc br _ _ (l0, e0) bp (({ zPkt with kind := k } : Pkt).cells zA) 42 bs [1] w1 (h1.holds (rX bc br _ _ (l0, e0) bp (({ zPkt with kind := k } : Pkt).cells zA) 42) (by (repeat (first | exact mH _ _ | apply mT)))) (h1.rd_of_blk (by (repeat (first | exact mH _ _ | apply mT)))) (St.apart2 (x := .own bs (.cells _ 114 (0, 0))) h1 (.inl (by (repeat (first | exact List.Sublist.refl _ | apply List.Sublist.cons_cons | apply List.Sublist.cons)))) rfl bs rfl) (fun o ho => (show ∀ o ∈ ([1] : List Nat), o < 40 by decide) o ho) (W b0).1 (W b0).2 (by simp)).mono ?_; rintro v w2 ⟨_, _, rfl, st⟩; rw [q1] at st; refine LR.back (St.did h1 (by (repeat (first | exact sH _ _ _ | apply sT))) rfl st (rX_dep _ _ _ _ _ _ _ _)) ?_; clear st h1) | (refine (p89r bc br _ _ u bp (({ zPkt with kind := k, to := tt } : Pkt).cells zA) 42 2 w1 (h1.holds (rX bc br _ _ u bp (({ zPkt with kind := k, to := tt } : Pkt).cells zA) 42) (by (repeat (first | exact mH _ _ | apply mT)))) (by show 2 + 1 < 40; decide) (W b1).1 (W b1).2).mono ?_; rintro v w2 ⟨_, _, rfl, st⟩; rw [q2] at st; refine LR.back (St.did h1 (by (repeat (first | exact sH _ _ _ | apply sT))) rfl st (rX_dep _ _ _ _ _ _ _ _)) ?_; clear st h1)))|((first|refine kR' ?_ ?_|refine kQ' ?_ ?_);all_goals(intro hc;try simp only[hcs]at hc;try(exfalso;first|contradiction|omega))))
      all_goals
        all_goals (
          apply DW.quiet [0, 1, 2, 3, 4, 5, 6, 7, 8, 9]
          · decide +kernel
          · first | exact fun _ h => h | exact fun _ h => St.sub h (by repeat (first | exact List.Sublist.refl _ | apply List.Sublist.cons_cons | apply List.Sublist.cons))
          repeat'(first|refine yv' ?_|refine uv' ?_|refine un' ?_|(refine us' ?_ ?_;all_goals(intro hc;try simp only[hcs]at hc;try(exfalso;first|contradiction|omega)))|apply QL.nil)
          all_goals (show DW _ _ _ _ _ _ _ _))
        all_goals (
          apply DW.loud 10
          · exact rfl
          · decide +kernel
          repeat'(first|(apply Go.Hb.kK;(iterate 4 exact rfl);intro bs)|refine kg' ?_|refine kG' ?_|apply kM|refine kv' ?_|refine kK' fun _=>?_|refine kU' ?_|refine kB' fun _=>?_|refine kA' fun _=>?_|(apply LR.call; (· exact rfl); (intro w1 h1; first | (refine (p87r bc br _ _ (gT (gT u)) bp (({ zPkt with kind := k, to := tt, d := { zeroDat with rseq := gV u, rrep := gV (gT u) } } : Pkt).cells zA) 42 bs [4, 5, 6] w1 (h1.holds (rX bc br _ _ (gT (gT u)) bp (({ zPkt with kind := k, to := tt, d := { zeroDat with rseq := gV u, rrep := gV (gT u) } } : Pkt).cells zA) 42) (by (repeat (first | exact mH _ _ | apply mT)))) (h1.rd_of_blk (by (repeat (first | exact mH _ _ | apply mT)))) (St.apart2 (x := .own bs (.cells _ 114 (0, 0))) h1 (.inl (by (repeat (first | exact List.Sublist.refl _ | apply List.Sublist.cons_cons | apply List.Sublist.cons)))) rfl bs rfl) (fun o ho => (show ∀ o ∈ ([4, 5, 6] : List Nat), o < 40 by decide) o ho) (W b2).1 (W b2).2 (by simp)).mono ?_; rintro v w2 ⟨_, _, rfl, st⟩; rw [q3] at st; refine LR.back (St.did h1 (by (repeat (first | exact sH _ _ _ | apply sT))) rfl st (rX_dep _ _ _ _ _ _ _ _)) ?_; clear st h1))))
          all_goals (refine At.stage_same (fun _ h => St.sub h (by repeat (first | exact List.Sublist.refl _ | apply List.Sublist.cons_cons | apply List.Sublist.cons))) ?_))
        all_goals (
          apply DW.loud 11
          · exact rfl
          · decide +kernel
          repeat'(first|(apply Go.Hb.kK;(iterate 4 exact rfl);intro bs)|refine kg' ?_|refine kG' ?_|apply kM|refine kv' ?_|refine kK' fun _=>?_|refine kU' ?_|refine kB' fun _=>?_|refine kA' fun _=>?_|(apply LR.call; (· exact rfl); (intro w1 h1; first | (refine (p87r bc br _ _ (gT (gT u)) bp (({ zPkt with kind := k, to := tt, d := { zeroDat with rseq := gV u, rrep := gV (gT u) } } : Pkt).cells zA) 42 bs [4, 5, 6] w1 (h1.holds (rX bc br _ _ (gT (gT u)) bp (({ zPkt with kind := k, to := tt, d := { zeroDat with rseq := gV u, rrep := gV (gT u) } } : Pkt).cells zA) 42) (by (repeat (first | exact mH _ _ | apply mT)))) (h1.rd_of_blk (by (repeat (first | exact mH _ _ | apply mT)))) (St.apart2 (x := .own bs (.cells _ 114 (0, 0))) h1 (.inl (by (repeat (first | exact List.Sublist.refl _ | apply List.Sublist.cons_cons | apply List.Sublist.cons)))) rfl bs rfl) (fun o ho => (show ∀ o ∈ ([4, 5, 6] : List Nat), o < 40 by decide) o ho) (W b2).1 (W b2).2 (by simp)).mono ?_; rintro v w2 ⟨_, _, rfl, st⟩; rw [q3] at st; refine LR.back (St.did h1 (by (repeat (first | exact sH _ _ _ | apply sT))) rfl st (rX_dep _ _ _ _ _ _ _ _)) ?_; clear st h1))))
          all_goals (refine At.stage_same (fun _ h => St.sub h (by repeat (first | exact List.Sublist.refl _ | apply List.Sublist.cons_cons | apply List.Sublist.cons))) ?_))
        all_goals (first | (apply DW.done_thn; (· decide +kernel)) | (apply DW.done; (· decide +kernel)))
        repeat'(first|refine kv' ?_|apply jJ|refine jE' ?_|refine jp' ?_|(apply jc;kernel_rfl)|refine kg' ?_|refine kG' ?_|refine kB' fun _=>?_|refine kA' fun _=>?_|refine kK' fun _=>?_|refine kU' ?_|(apply LR.call; (· exact rfl); (intro w1 h1; first | (refine (p90r bc br _ _ (gT (gT (gT (gT (gT u))))) bp (({ zPkt with kind := k, to := tt, d := { zeroDat with rseq := gV u, rrep := gV (gT u), seq := gV (gT (gT u)), sender := gV (gT (gT (gT u))), stamp := gV (gT (gT (gT (gT u)))) } } : Pkt).cells zA) 42 7 w1 (h1.holds (rX bc br _ _ (gT (gT (gT (gT (gT u))))) bp (({ zPkt with kind := k, to := tt, d := { zeroDat with rseq := gV u, rrep := gV (gT u), seq := gV (gT (gT u)), sender := gV (gT (gT (gT u))), stamp := gV (gT (gT (gT (gT u)))) } } : Pkt).cells zA) 42) (by (repeat (first | exact mH _ _ | apply mT)))) (by show 7 + 13 ≤ 40; decide) b3.1 b3.2).mono ?_; rintro v w2 ⟨rfl, a5, c5, cs5, X, st, hXd, hXe, hl5, hg5⟩; refine LR.back (St.did h1 (by (repeat (first | exact sH _ _ _ | apply sT))) rfl st (both_dep (rX_dep _ _ _ _ _ _ _ _) hXd)) ?_; clear st h1)))|((first|refine kR' ?_ ?_|refine kQ' ?_ ?_);all_goals(intro hc;try simp only[hcs]at hc;try(exfalso;first|contradiction|omega))))
        apply end0
        · exact rfl
        intro w' hS
        refine ⟨rfl, lst_end2 hF (hS.sub (L' := [both (rX bc br a5 c5 (msgR (gT (gT (gT (gT (gT u)))))).2 bp cs5 42) X]) (by (repeat (first | exact List.Sublist.refl _ | apply List.Sublist.cons_cons | apply List.Sublist.cons)))) hXd hXe hl5 (fun h0 => ?_)⟩
        obtain ⟨sa, sc, hcs, hz, hX, hXb⟩ := hg5 h0
        exact ⟨{ zA with da := sa, dc := sc }, hcs, fun w2 h2 => ⟨hX w2 h2, hz, Rd.nil _ _, fun _ => rfl, Rd.nil _ _, fun _ => rfl⟩, fun _ => hXb⟩
    by_cases hk2 : k = 2
    · rw [if_neg hk1, if_pos hk2] at hr1
      subst hr1
      have q2 : rdN [20, 21] (({ zPkt with kind := k, to := tt } : Pkt).cells zA) u = ((({ zPkt with kind := k, to := tt, t := { zTkn with r1 := gV u, r2 := gV (gT u) } } : Pkt).cells zA), (gT (gT u))) := (rd_cons rfl).trans ((rd_cons rfl).trans (rfl))
      have b2 := BB [20, 21] (({ zPkt with kind := k, to := tt } : Pkt).cells zA) b1
      rw [q2] at b2
      have q3 : rdN [22, 23, 24, 25, 26, 27] (({ zPkt with kind := k, to := tt, t := { zTkn with r1 := gV u, r2 := gV (gT u) } } : Pkt).cells zA) (gT (gT u)) = ((({ zPkt with kind := k, to := tt, t := { zTkn with r1 := gV u, r2 := gV (gT u), hop := gV (gT (gT u)), seq := gV (gT (gT (gT u))), aru := gV (gT (gT (gT (gT u)))), low := gV (gT (gT (gT (gT (gT u))))), stamp := gV (gT (gT (gT (gT (gT (gT u)))))), idle := gV (gT (gT (gT (gT (gT (gT (gT u))))))) } } : Pkt).cells zA), (gT (gT (gT (gT (gT (gT (gT (gT u))))))))) := (rd_cons rfl).trans ((rd_cons rfl).trans ((rd_cons rfl).trans ((rd_cons rfl).trans ((rd_cons rfl).trans ((rd_cons rfl).trans (rfl))))))
      have b3 := BB [22, 23, 24, 25, 26, 27] (({ zPkt with kind := k, to := tt, t := { zTkn with r1 := gV u, r2 := gV (gT u) } } : Pkt).cells zA) b2
      rw [q3] at b3
      repeat'(first|(apply CW.reg_held (St w F []))|(apply Go.Hb.kK;(iterate 4 exact rfl);intro bs)|refine kv' ?_|apply jJ|refine jE' ?_|refine jp' ?_|(apply jc;kernel_rfl)|refine kg' ?_|refine kG' ?_|refine kB' fun _=>?_|refine kA' fun _=>?_|refine kK' fun _=>?_|refine kU' ?_|(apply LR.ev; (· apply Ev.load (v := .int .i64 e0); (· exact rfl); (· intro w' hw'; apply rX_e (br := br) (s := (l0, e0)) (b := bp) (cs := (({ zPkt with kind := k } : Pkt).cells zA)) (E := 42); apply hw'.holds; (repeat (first | exact mH _ _ | apply mT)); done)); (· exact rfl))|(apply LR.ev; (· apply Ev.load (v := .int .i64 k); (· exact rfl); (· intro w' hw'; apply rX_cell (br := br) (s := (l0, e0)) (b := bp) (cs := (({ zPkt with kind := k } : Pkt).cells zA)) (E := 42) (j := 0); (· apply hw'.holds; (repeat (first | exact mH _ _ | apply mT)); done); (· exact rfl))); (· exact rfl))|(apply LR.ev; (· apply Ev.load (v := .int .i64 k); (· exact rfl); (· intro w' hw'; apply rX_cell (br := br) (s := u) (b := bp) (cs := (({ zPkt with kind := k, to := tt } : Pkt).cells zA)) (E := 42) (j := 0); (· apply hw'.holds; (repeat (first | exact mH _ _ | apply mT)); done); (· exact rfl))); (· exact rfl))|(apply kq; (· exact rfl); (· intro w1 h1; exact CallsTo.q (p88 k 1 5 w1) h1))|(apply LR.call; (· exact rfl); (intro w1 h1; first | (refine (p87r bc br _ _ s bp (zPkt.cells zA) 42 bs [0] w1 (h1.holds (rX bc br _ _ s bp (zPkt.cells zA) 42) (by (repeat (first | exact mH _ _ | apply mT)))) (h1.rd_of_blk (by (repeat (first | exact mH _ _ | apply mT)))) (St.apart2 (x := .own bs (.cells _ 114 (0, 0))) h1 (.inl (by (repeat (first | exact List.Sublist.refl _ | apply List.Sublist.cons_cons | apply List.Sublist.cons)))) rfl bs rfl) (fun o ho => (show ∀ o ∈ ([0] : List Nat), o < 40 by decide) o ho) hB0.1 hB0.2 (by simp)).mono ?_; rintro v w2 ⟨_, _, rfl, st⟩; rw [q0] at st; refine LR.back (St.did h1 (by (repeat (first | exact sH _ _ _ | apply sT))) rfl st (rX_dep _ _ _ _ _ _ _ _)) ?_; clear st h1) | (refine (p87r bc br _ _ (l0, e0) bp (({ zPkt with kind := k } : Pkt).cells zA) 42 bs [1] w1 (h1.holds (rX bc br _ _ (l0, e0) bp (({ zPkt with kind := k } : Pkt).cells zA) 42) (by (repeat (first | exact mH _ _ | apply mT)))) (h1.rd_of_blk (by (repeat (first | exact mH _ _ | apply mT)))) (St.apart2 (x := .own bs (.cells _ 114 (0, 0))) h1 (.inl (by (repeat (first | exact List.Sublist.refl _ | apply List.Sublist.cons_cons | apply List.Sublist.cons)))) rfl bs rfl) (fun o ho => (show ∀ o ∈ ([1] : List Nat), o < 40 by decide) o ho) (W b0).1 (W b0).2 (by simp)).mono ?_; rintro v w2 ⟨_, _, rfl, st⟩; rw [q1] at st; refine LR.back (St.did h1 (by (repeat (first | exact sH _ _ _ | apply sT))) rfl st (rX_dep _ _ _ _ _ _ _ _)) ?_; clear st h1) | (refine (p89r bc br _ _ u bp (({ zPkt with kind := k, to := tt } : Pkt).cells zA) 42 20 w1 (h1.holds (rX bc br _ _ u bp (({ zPkt with kind := k, to := tt } : Pkt).cells zA) 42) (by (repeat (first | exact mH _ _ | apply mT)))) (by show 20 + 1 < 40; decide) (W b1).1 (W b1).2).mono ?_; rintro v w2 ⟨_, _, rfl, st⟩; rw [q2] at st; refine LR.back (St.did h1 (by (repeat (first | exact sH _ _ _ | apply sT))) rfl st (rX_dep _ _ _ _ _ _ _ _)) ?_; clear st h1)))|((first|refine kR' ?_ ?_|refine kQ' ?_ ?_);all_goals(intro hc;try simp only[hcs]at hc;try(exfalso;first|contradiction|omega))))
      all_goals
        all_goals (
          apply DW.quiet [0, 1, 2, 3, 4, 5, 6, 7, 8, 9, 10, 11, 12, 13, 14, 15, 16, 17, 18]
          · decide +kernel
          · first | exact fun _ h => h | exact fun _ h => St.sub h (by repeat (first | exact List.Sublist.refl _ | apply List.Sublist.cons_cons | apply List.Sublist.cons))
          repeat'(first|refine yv' ?_|refine uv' ?_|refine un' ?_|(refine us' ?_ ?_;all_goals(intro hc;try simp only[hcs]at hc;try(exfalso;first|contradiction|omega)))|apply QL.nil)
          all_goals (show DW _ _ _ _ _ _ _ _))
        all_goals (
          apply DW.loud 19
          · exact rfl
          · decide +kernel
          repeat'(first|(apply Go.Hb.kK;(iterate 4 exact rfl);intro bs)|refine kg' ?_|refine kG' ?_|apply kM|refine kv' ?_|refine kK' fun _=>?_|refine kU' ?_|refine kB' fun _=>?_|refine kA' fun _=>?_|(apply LR.call; (· exact rfl); (intro w1 h1; first | (refine (p87r bc br _ _ (gT (gT u)) bp (({ zPkt with kind := k, to := tt, t := { zTkn with r1 := gV u, r2 := gV (gT u) } } : Pkt).cells zA) 42 bs [22, 23, 24, 25, 26, 27] w1 (h1.holds (rX bc br _ _ (gT (gT u)) bp (({ zPkt with kind := k, to := tt, t := { zTkn with r1 := gV u, r2 := gV (gT u) } } : Pkt).cells zA) 42) (by (repeat (first | exact mH _ _ | apply mT)))) (h1.rd_of_blk (by (repeat (first | exact mH _ _ | apply mT)))) (St.apart2 (x := .own bs (.cells _ 114 (0, 0))) h1 (.inl (by (repeat (first | exact List.Sublist.refl _ | apply List.Sublist.cons_cons | apply List.Sublist.cons)))) rfl bs rfl) (fun o ho => (show ∀ o ∈ ([22, 23, 24, 25, 26, 27] : List Nat), o < 40 by decide) o ho) (W b2).1 (W b2).2 (by simp)).mono ?_; rintro v w2 ⟨_, _, rfl, st⟩; rw [q3] at st; refine LR.back (St.did h1 (by (repeat (first | exact sH _ _ _ | apply sT))) rfl st (rX_dep _ _ _ _ _ _ _ _)) ?_; clear st h1))))
          all_goals (refine At.stage_same (fun _ h => St.sub h (by repeat (first | exact List.Sublist.refl _ | apply List.Sublist.cons_cons | apply List.Sublist.cons))) ?_))
        all_goals (
          apply DW.loud 20
          · exact rfl
          · decide +kernel
          repeat'(first|(apply Go.Hb.kK;(iterate 4 exact rfl);intro bs)|refine kg' ?_|refine kG' ?_|apply kM|refine kv' ?_|refine kK' fun _=>?_|refine kU' ?_|refine kB' fun _=>?_|refine kA' fun _=>?_|(apply LR.call; (· exact rfl); (intro w1 h1; first | (refine (p87r bc br _ _ (gT (gT u)) bp (({ zPkt with kind := k, to := tt, t := { zTkn with r1 := gV u, r2 := gV (gT u) } } : Pkt).cells zA) 42 bs [22, 23, 24, 25, 26, 27] w1 (h1.holds (rX bc br _ _ (gT (gT u)) bp (({ zPkt with kind := k, to := tt, t := { zTkn with r1 := gV u, r2 := gV (gT u) } } : Pkt).cells zA) 42) (by (repeat (first | exact mH _ _ | apply mT)))) (h1.rd_of_blk (by (repeat (first | exact mH _ _ | apply mT)))) (St.apart2 (x := .own bs (.cells _ 114 (0, 0))) h1 (.inl (by (repeat (first | exact List.Sublist.refl _ | apply List.Sublist.cons_cons | apply List.Sublist.cons)))) rfl bs rfl) (fun o ho => (show ∀ o ∈ ([22, 23, 24, 25, 26, 27] : List Nat), o < 40 by decide) o ho) (W b2).1 (W b2).2 (by simp)).mono ?_; rintro v w2 ⟨_, _, rfl, st⟩; rw [q3] at st; refine LR.back (St.did h1 (by (repeat (first | exact sH _ _ _ | apply sT))) rfl st (rX_dep _ _ _ _ _ _ _ _)) ?_; clear st h1))))
          all_goals (refine At.stage_same (fun _ h => St.sub h (by repeat (first | exact List.Sublist.refl _ | apply List.Sublist.cons_cons | apply List.Sublist.cons))) ?_))
        all_goals (first | (apply DW.done_thn; (· decide +kernel)) | (apply DW.done; (· decide +kernel)))
        repeat'(first|refine kv' ?_|apply jJ|refine jE' ?_|refine jp' ?_|(apply jc;kernel_rfl)|refine kg' ?_|refine kG' ?_|refine kB' fun _=>?_|refine kA' fun _=>?_|refine kK' fun _=>?_|refine kU' ?_|(apply LR.call; (· exact rfl); (intro w1 h1; first | (refine (p91r bc br _ _ (gT (gT (gT (gT (gT (gT (gT (gT u)))))))) bp (({ zPkt with kind := k, to := tt, t := { zTkn with r1 := gV u, r2 := gV (gT u), hop := gV (gT (gT u)), seq := gV (gT (gT (gT u))), aru := gV (gT (gT (gT (gT u)))), low := gV (gT (gT (gT (gT (gT u))))), stamp := gV (gT (gT (gT (gT (gT (gT u)))))), idle := gV (gT (gT (gT (gT (gT (gT (gT u))))))) } } : Pkt).cells zA) 42 28 16 w1 (h1.holds (rX bc br _ _ (gT (gT (gT (gT (gT (gT (gT (gT u)))))))) bp (({ zPkt with kind := k, to := tt, t := { zTkn with r1 := gV u, r2 := gV (gT u), hop := gV (gT (gT u)), seq := gV (gT (gT (gT u))), aru := gV (gT (gT (gT (gT u)))), low := gV (gT (gT (gT (gT (gT u))))), stamp := gV (gT (gT (gT (gT (gT (gT u)))))), idle := gV (gT (gT (gT (gT (gT (gT (gT u))))))) } } : Pkt).cells zA) 42) (by (repeat (first | exact mH _ _ | apply mT)))) (by show 28 < 40; decide) rfl (W b3).1 (W b3).2 (by omega)).mono ?_; rintro v w2 ⟨rfl, a5, c5, cs5, X, st, hXd, hXe, hl5, hg5⟩; refine LR.back (St.did h1 (by (repeat (first | exact sH _ _ _ | apply sT))) rfl st (both_dep (rX_dep _ _ _ _ _ _ _ _) hXd)) ?_; clear st h1)))|((first|refine kR' ?_ ?_|refine kQ' ?_ ?_);all_goals(intro hc;try simp only[hcs]at hc;try(exfalso;first|contradiction|omega))))
        apply end0
        · exact rfl
        intro w' hS
        refine ⟨rfl, lst_end2 hF (hS.sub (L' := [both (rX bc br a5 c5 (lstR getS 16 (gT (gT (gT (gT (gT (gT (gT (gT u))))))))).2 bp cs5 42) X]) (by (repeat (first | exact List.Sublist.refl _ | apply List.Sublist.cons_cons | apply List.Sublist.cons)))) hXd hXe hl5 (fun h0 => ?_)⟩
        obtain ⟨sa, sc, hcs, hz, hX⟩ := hg5 h0
        exact ⟨{ zA with ta := sa, tc := sc }, hcs, fun w2 h2 => ⟨Rd.nil _ _, fun _ => rfl, (by have := hX w2 h2; rw [← iv_flat] at this; exact this), hz, Rd.nil _ _, fun _ => rfl⟩, fun h => absurd rfl h⟩
    by_cases hk3 : k = 3
    · rw [if_neg hk1, if_neg hk2, if_pos hk3] at hr1
      subst hr1
      have q2 : rdN [29, 30, 31] (({ zPkt with kind := k, to := tt } : Pkt).cells zA) u = ((({ zPkt with kind := k, to := tt, j1 := gV u, j2 := gV (gT u), j3 := gV (gT (gT u)) } : Pkt).cells zA), (gT (gT (gT u)))) := (rd_cons rfl).trans ((rd_cons rfl).trans ((rd_cons rfl).trans (rfl)))
      have b2 := BB [29, 30, 31] (({ zPkt with kind := k, to := tt } : Pkt).cells zA) b1
      rw [q2] at b2
      repeat'(first|(apply CW.reg_held (St w F []))|(apply Go.Hb.kK;(iterate 4 exact rfl);intro bs)|refine kv' ?_|apply jJ|refine jE' ?_|refine jp' ?_|(apply jc;kernel_rfl)|refine kg' ?_|refine kG' ?_|refine kB' fun _=>?_|refine kA' fun _=>?_|refine kK' fun _=>?_|refine kU' ?_|(apply LR.ev; (· apply Ev.load (v := .int .i64 e0); (· exact rfl); (· intro w' hw'; apply rX_e (br := br) (s := (l0, e0)) (b := bp) (cs := (({ zPkt with kind := k } : Pkt).cells zA)) (E := 42); apply hw'.holds; (repeat (first | exact mH _ _ | apply mT)); done)); (· exact rfl))|(apply LR.ev; (· apply Ev.load (v := .int .i64 k); (· exact rfl); (· intro w' hw'; apply rX_cell (br := br) (s := (l0, e0)) (b := bp) (cs := (({ zPkt with kind := k } : Pkt).cells zA)) (E := 42) (j := 0); (· apply hw'.holds; (repeat (first | exact mH _ _ | apply mT)); done); (· exact rfl))); (· exact rfl))|(apply LR.ev; (· apply Ev.load (v := .int .i64 k); (· exact rfl); (· intro w' hw'; apply rX_cell (br := br) (s := u) (b := bp) (cs := (({ zPkt with kind := k, to := tt } : Pkt).cells zA)) (E := 42) (j := 0); (· apply hw'.holds; (repeat (first | exact mH _ _ | apply mT)); done); (· exact rfl))); (· exact rfl))|(apply kq; (· exact rfl); (· intro w1 h1; exact CallsTo.q (p88 k 1 5 w1) h1))|(apply LR.call; (· exact rfl); (intro w1 h1; first | (refine (p87r bc br _ _ s bp (zPkt.cells zA) 42 bs [0] w1 (h1.holds (rX bc br _ _ s bp (zPkt.cells zA) 42) (by (repeat (first | exact mH _ _ | apply mT)))) (h1.rd_of_blk (by (repeat (first | exact mH _ _ | apply mT)))) (St.apart2 (x := .own bs (.cells _ 114 (0, 0))) h1 (.inl (by (repeat (first | exact List.Sublist.refl _ | apply List.Sublist.cons_cons | apply List.Sublist.cons)))) rfl bs rfl) (fun o ho => (show ∀ o ∈ ([0] : List Nat), o < 40 by decide) o ho) hB0.1 hB0.2 (by simp)).mono ?_; rintro v w2 ⟨_, _, rfl, st⟩; rw [q0] at st; refine LR.back (St.did h1 (by (repeat (first | exact sH _ _ _ | apply sT))) rfl st (rX_dep _ _ _ _ _ _ _ _)) ?_; clear st h1) | (refine (p87r bc br _ _ (l0, e0) bp (({ zPkt with kind := k } : Pkt).cells zA) 42 bs [1] w1 (h1.holds (rX bc br _ _ (l0, e0) bp (({ zPkt with kind := k } : Pkt).cells zA) 42) (by (repeat (first | exact mH _ _ | apply mT)))) (h1.rd_of_blk (by (repeat (first | exact mH _ _ | apply mT)))) (St.apart2 (x := .own bs (.cells _ 114 (0, 0))) h1 (.inl (by (repeat (first | exact List.Sublist.refl _ | apply List.Sublist.cons_cons | apply List.Sublist.cons)))) rfl bs rfl) (fun o ho => (show ∀ o ∈ ([1] : List Nat), o < 40 by decide) o ho) (W b0).1 (W b0).2 (by simp)).mono ?_; rintro v w2 ⟨_, _, rfl, st⟩; rw [q1] at st; refine LR.back (St.did h1 (by (repeat (first | exact sH _ _ _ | apply sT))) rfl st (rX_dep _ _ _ _ _ _ _ _)) ?_; clear st h1)))|((first|refine kR' ?_ ?_|refine kQ' ?_ ?_);all_goals(intro hc;try simp only[hcs]at hc;try(exfalso;first|contradiction|omega))))
      all_goals
        all_goals (
          apply DW.quiet [0, 1, 2, 3, 4, 5, 6, 7, 8, 9, 10, 11, 12]
          · decide +kernel
          · first | exact fun _ h => h | exact fun _ h => St.sub h (by repeat (first | exact List.Sublist.refl _ | apply List.Sublist.cons_cons | apply List.Sublist.cons))
          repeat'(first|refine yv' ?_|refine uv' ?_|refine un' ?_|(refine us' ?_ ?_;all_goals(intro hc;try simp only[hcs]at hc;try(exfalso;first|contradiction|omega)))|apply QL.nil)
          all_goals (show DW _ _ _ _ _ _ _ _))
        all_goals (
          apply DW.loud 13
          · exact rfl
          · decide +kernel
          repeat'(first|(apply Go.Hb.kK;(iterate 4 exact rfl);intro bs)|refine kg' ?_|refine kG' ?_|apply kM|refine kv' ?_|refine kK' fun _=>?_|refine kU' ?_|refine kB' fun _=>?_|refine kA' fun _=>?_|(apply LR.call; (· exact rfl); (intro w1 h1; first | (refine (p87r bc br _ _ u bp (({ zPkt with kind := k, to := tt } : Pkt).cells zA) 42 bs [29, 30, 31] w1 (h1.holds (rX bc br _ _ u bp (({ zPkt with kind := k, to := tt } : Pkt).cells zA) 42) (by (repeat (first | exact mH _ _ | apply mT)))) (h1.rd_of_blk (by (repeat (first | exact mH _ _ | apply mT)))) (St.apart2 (x := .own bs (.cells _ 114 (0, 0))) h1 (.inl (by (repeat (first | exact List.Sublist.refl _ | apply List.Sublist.cons_cons | apply List.Sublist.cons)))) rfl bs rfl) (fun o ho => (show ∀ o ∈ ([29, 30, 31] : List Nat), o < 40 by decide) o ho) (W b1).1 (W b1).2 (by simp)).mono ?_; rintro v w2 ⟨_, _, rfl, st⟩; rw [q2] at st; refine LR.back (St.did h1 (by (repeat (first | exact sH _ _ _ | apply sT))) rfl st (rX_dep _ _ _ _ _ _ _ _)) ?_; clear st h1))))
          all_goals (refine At.stage_same (fun _ h => St.sub h (by repeat (first | exact List.Sublist.refl _ | apply List.Sublist.cons_cons | apply List.Sublist.cons))) ?_))
        all_goals (
          apply DW.loud 14
          · exact rfl
          · decide +kernel
          repeat'(first|(apply Go.Hb.kK;(iterate 4 exact rfl);intro bs)|refine kg' ?_|refine kG' ?_|apply kM|refine kv' ?_|refine kK' fun _=>?_|refine kU' ?_|refine kB' fun _=>?_|refine kA' fun _=>?_|(apply LR.call; (· exact rfl); (intro w1 h1; first | (refine (p87r bc br _ _ u bp (({ zPkt with kind := k, to := tt } : Pkt).cells zA) 42 bs [29, 30, 31] w1 (h1.holds (rX bc br _ _ u bp (({ zPkt with kind := k, to := tt } : Pkt).cells zA) 42) (by (repeat (first | exact mH _ _ | apply mT)))) (h1.rd_of_blk (by (repeat (first | exact mH _ _ | apply mT)))) (St.apart2 (x := .own bs (.cells _ 114 (0, 0))) h1 (.inl (by (repeat (first | exact List.Sublist.refl _ | apply List.Sublist.cons_cons | apply List.Sublist.cons)))) rfl bs rfl) (fun o ho => (show ∀ o ∈ ([29, 30, 31] : List Nat), o < 40 by decide) o ho) (W b1).1 (W b1).2 (by simp)).mono ?_; rintro v w2 ⟨_, _, rfl, st⟩; rw [q2] at st; refine LR.back (St.did h1 (by (repeat (first | exact sH _ _ _ | apply sT))) rfl st (rX_dep _ _ _ _ _ _ _ _)) ?_; clear st h1))))
          all_goals (refine At.stage_same (fun _ h => St.sub h (by repeat (first | exact List.Sublist.refl _ | apply List.Sublist.cons_cons | apply List.Sublist.cons))) ?_))
        all_goals (first | (apply DW.done_thn; (· decide +kernel)) | (apply DW.done; (· decide +kernel)))
        repeat'(first|refine kv' ?_|apply jJ|refine jE' ?_|refine jp' ?_|(apply jc;kernel_rfl)|refine kg' ?_|refine kG' ?_|refine kB' fun _=>?_|refine kA' fun _=>?_|refine kK' fun _=>?_|refine kU' ?_|((first|refine kR' ?_ ?_|refine kQ' ?_ ?_);all_goals(intro hc;try simp only[hcs]at hc;try(exfalso;first|contradiction|omega))))
        apply end0
        · exact rfl
        intro w' hS
        exact ⟨rfl, lst_end hF (hS.sub (L' := [rX bc br _ _ (gT (gT (gT u))) bp (({ zPkt with kind := k, to := tt, j1 := gV u, j2 := gV (gT u), j3 := gV (gT (gT u)) } : Pkt).cells zA) 42]) (by (repeat (first | exact List.Sublist.refl _ | apply List.Sublist.cons_cons | apply List.Sublist.cons)))) rfl (fun h0 => ⟨zA, rfl, fun w2 h2 => ⟨Rd.nil _ _, fun _ => rfl, Rd.nil _ _, fun _ => rfl, Rd.nil _ _, fun _ => rfl⟩, fun h => absurd rfl h⟩)⟩
    by_cases hk4 : k = 4
    · rw [if_neg hk1, if_neg hk2, if_neg hk3, if_pos hk4] at hr1
      subst hr1
      have q2 : rdN [32, 33] (({ zPkt with kind := k, to := tt } : Pkt).cells zA) u = ((({ zPkt with kind := k, to := tt, c := { zCmt with r1 := gV u, r2 := gV (gT u) } } : Pkt).cells zA), (gT (gT u))) := (rd_cons rfl).trans ((rd_cons rfl).trans (rfl))
      have b2 := BB [32, 33] (({ zPkt with kind := k, to := tt } : Pkt).cells zA) b1
      rw [q2] at b2
      have q3 : rdN [34, 35] (({ zPkt with kind := k, to := tt, c := { zCmt with r1 := gV u, r2 := gV (gT u) } } : Pkt).cells zA) (gT (gT u)) = ((({ zPkt with kind := k, to := tt, c := { zCmt with r1 := gV u, r2 := gV (gT u), mem := gV (gT (gT u)), hop := gV (gT (gT (gT u))) } } : Pkt).cells zA), (gT (gT (gT (gT u))))) := (rd_cons rfl).trans ((rd_cons rfl).trans (rfl))
      have b3 := BB [34, 35] (({ zPkt with kind := k, to := tt, c := { zCmt with r1 := gV u, r2 := gV (gT u) } } : Pkt).cells zA) b2
      rw [q3] at b3
      repeat'(first|(apply CW.reg_held (St w F []))|(apply Go.Hb.kK;(iterate 4 exact rfl);intro bs)|refine kv' ?_|apply jJ|refine jE' ?_|refine jp' ?_|(apply jc;kernel_rfl)|refine kg' ?_|refine kG' ?_|refine kB' fun _=>?_|refine kA' fun _=>?_|refine kK' fun _=>?_|refine kU' ?_|(apply LR.ev; (· apply Ev.load (v := .int .i64 e0); (· exact rfl); (· intro w' hw'; apply rX_e (br := br) (s := (l0, e0)) (b := bp) (cs := (({ zPkt with kind := k } : Pkt).cells zA)) (E := 42); apply hw'.holds; (repeat (first | exact mH _ _ | apply mT)); done)); (· exact rfl))|(apply LR.ev; (· apply Ev.load (v := .int .i64 k); (· exact rfl); (· intro w' hw'; apply rX_cell (br := br) (s := (l0, e0)) (b := bp) (cs := (({ zPkt with kind := k } : Pkt).cells zA)) (E := 42) (j := 0); (· apply hw'.holds; (repeat (first | exact mH _ _ | apply mT)); done); (· exact rfl))); (· exact rfl))|(apply LR.ev; (· apply Ev.load (v := .int .i64 k); (· exact rfl); (· intro w' hw'; apply rX_cell (br := br) (s := u) (b := bp) (cs := (({ zPkt with kind := k, to := tt } : Pkt).cells zA)) (E := 42) (j := 0); (· apply hw'.holds; (repeat (first | exact mH _ _ | apply mT)); done); (· exact rfl))); (· exact rfl))|(apply kq; (· exact rfl); (· intro w1 h1; exact CallsTo.q (p88 k 1 5 w1) h1))|(apply LR.call; (· exact rfl); (intro w1 h1; first | (refine (p87r bc br _ _ s bp (zPkt.cells zA) 42 bs [0] w1 (h1.holds (rX bc br _ _ s bp (zPkt.cells zA) 42) (by (repeat (first | exact mH _ _ | apply mT)))) (h1.rd_of_blk (by (repeat (first | exact mH _ _ | apply mT)))) (St.apart2 (x := .own bs (.cells _ 114 (0, 0))) h1 (.inl (by (repeat (first | exact List.Sublist.refl _ | apply List.Sublist.cons_cons | apply List.Sublist.cons)))) rfl bs rfl) (fun o ho => (show ∀ o ∈ ([0] : List Nat), o < 40 by decide) o ho) hB0.1 hB0.2 (by simp)).mono ?_; rintro v w2 ⟨_, _, rfl, st⟩; rw [q0] at st; refine LR.back (St.did h1 (by (repeat (first | exact sH _ _ _ | apply sT))) rfl st (rX_dep _ _ _ _ _ _ _ _)) ?_; clear st h1) | (refine (p87r bc br _ _ (l0, e0) bp (({ zPkt with kind := k } : Pkt).cells zA) 42 bs [1] w1 (h1.holds (rX bc br _ _ (l0, e0) bp (({ zPkt with kind := k } : Pkt).cells zA) 42) (by (repeat (first | exact mH _ _ | apply mT)))) (h1.rd_of_blk (by (repeat (first | exact mH _ _ | apply mT)))) (St.apart2 (x := .own bs (.cells _ 114 (0, 0))) h1 (.inl (by (repeat (first | exact List.Sublist.refl _ | apply List.Sublist.cons_cons | apply List.Sublist.cons)))) rfl bs rfl) (fun o ho => (show ∀ o ∈ ([1] : List Nat), o < 40 by decide) o ho) (W b0).1 (W b0).2 (by simp)).mono ?_; rintro v w2 ⟨_, _, rfl, st⟩; rw [q1] at st; refine LR.back (St.did h1 (by (repeat (first | exact sH _ _ _ | apply sT))) rfl st (rX_dep _ _ _ _ _ _ _ _)) ?_; clear st h1) | (refine (p89r bc br _ _ u bp (({ zPkt with kind := k, to := tt } : Pkt).cells zA) 42 32 w1 (h1.holds (rX bc br _ _ u bp (({ zPkt with kind := k, to := tt } : Pkt).cells zA) 42) (by (repeat (first | exact mH _ _ | apply mT)))) (by show 32 + 1 < 40; decide) (W b1).1 (W b1).2).mono ?_; rintro v w2 ⟨_, _, rfl, st⟩; rw [q2] at st; refine LR.back (St.did h1 (by (repeat (first | exact sH _ _ _ | apply sT))) rfl st (rX_dep _ _ _ _ _ _ _ _)) ?_; clear st h1)))|((first|refine kR' ?_ ?_|refine kQ' ?_ ?_);all_goals(intro hc;try simp only[hcs]at hc;try(exfalso;first|contradiction|omega))))
      all_goals
        all_goals (
          apply DW.quiet [0, 1, 2, 3, 4, 5, 6]
          · decide +kernel
          · first | exact fun _ h => h | exact fun _ h => St.sub h (by repeat (first | exact List.Sublist.refl _ | apply List.Sublist.cons_cons | apply List.Sublist.cons))
          repeat'(first|refine yv' ?_|refine uv' ?_|refine un' ?_|(refine us' ?_ ?_;all_goals(intro hc;try simp only[hcs]at hc;try(exfalso;first|contradiction|omega)))|apply QL.nil)
          all_goals (show DW _ _ _ _ _ _ _ _))
        all_goals (
          apply DW.loud 7
          · exact rfl
          · decide +kernel
          repeat'(first|(apply Go.Hb.kK;(iterate 4 exact rfl);intro bs)|refine kg' ?_|refine kG' ?_|apply kM|refine kv' ?_|refine kK' fun _=>?_|refine kU' ?_|refine kB' fun _=>?_|refine kA' fun _=>?_|(apply LR.call; (· exact rfl); (intro w1 h1; first | (refine (p87r bc br _ _ (gT (gT u)) bp (({ zPkt with kind := k, to := tt, c := { zCmt with r1 := gV u, r2 := gV (gT u) } } : Pkt).cells zA) 42 bs [34, 35] w1 (h1.holds (rX bc br _ _ (gT (gT u)) bp (({ zPkt with kind := k, to := tt, c := { zCmt with r1 := gV u, r2 := gV (gT u) } } : Pkt).cells zA) 42) (by (repeat (first | exact mH _ _ | apply mT)))) (h1.rd_of_blk (by (repeat (first | exact mH _ _ | apply mT)))) (St.apart2 (x := .own bs (.cells _ 114 (0, 0))) h1 (.inl (by (repeat (first | exact List.Sublist.refl _ | apply List.Sublist.cons_cons | apply List.Sublist.cons)))) rfl bs rfl) (fun o ho => (show ∀ o ∈ ([34, 35] : List Nat), o < 40 by decide) o ho) (W b2).1 (W b2).2 (by simp)).mono ?_; rintro v w2 ⟨_, _, rfl, st⟩; rw [q3] at st; refine LR.back (St.did h1 (by (repeat (first | exact sH _ _ _ | apply sT))) rfl st (rX_dep _ _ _ _ _ _ _ _)) ?_; clear st h1))))
          all_goals (refine At.stage_same (fun _ h => St.sub h (by repeat (first | exact List.Sublist.refl _ | apply List.Sublist.cons_cons | apply List.Sublist.cons))) ?_))
        all_goals (
          apply DW.loud 8
          · exact rfl
          · decide +kernel
          repeat'(first|(apply Go.Hb.kK;(iterate 4 exact rfl);intro bs)|refine kg' ?_|refine kG' ?_|apply kM|refine kv' ?_|refine kK' fun _=>?_|refine kU' ?_|refine kB' fun _=>?_|refine kA' fun _=>?_|(apply LR.call; (· exact rfl); (intro w1 h1; first | (refine (p87r bc br _ _ (gT (gT u)) bp (({ zPkt with kind := k, to := tt, c := { zCmt with r1 := gV u, r2 := gV (gT u) } } : Pkt).cells zA) 42 bs [34, 35] w1 (h1.holds (rX bc br _ _ (gT (gT u)) bp (({ zPkt with kind := k, to := tt, c := { zCmt with r1 := gV u, r2 := gV (gT u) } } : Pkt).cells zA) 42) (by (repeat (first | exact mH _ _ | apply mT)))) (h1.rd_of_blk (by (repeat (first | exact mH _ _ | apply mT)))) (St.apart2 (x := .own bs (.cells _ 114 (0, 0))) h1 (.inl (by (repeat (first | exact List.Sublist.refl _ | apply List.Sublist.cons_cons | apply List.Sublist.cons)))) rfl bs rfl) (fun o ho => (show ∀ o ∈ ([34, 35] : List Nat), o < 40 by decide) o ho) (W b2).1 (W b2).2 (by simp)).mono ?_; rintro v w2 ⟨_, _, rfl, st⟩; rw [q3] at st; refine LR.back (St.did h1 (by (repeat (first | exact sH _ _ _ | apply sT))) rfl st (rX_dep _ _ _ _ _ _ _ _)) ?_; clear st h1))))
          all_goals (refine At.stage_same (fun _ h => St.sub h (by repeat (first | exact List.Sublist.refl _ | apply List.Sublist.cons_cons | apply List.Sublist.cons))) ?_))
        all_goals (first | (apply DW.done_thn; (· decide +kernel)) | (apply DW.done; (· decide +kernel)))
        repeat'(first|refine kv' ?_|apply jJ|refine jE' ?_|refine jp' ?_|(apply jc;kernel_rfl)|refine kg' ?_|refine kG' ?_|refine kB' fun _=>?_|refine kA' fun _=>?_|refine kK' fun _=>?_|refine kU' ?_|(apply LR.call; (· exact rfl); (intro w1 h1; first | (refine (p93r bc br _ _ (gT (gT (gT (gT u)))) bp (({ zPkt with kind := k, to := tt, c := { zCmt with r1 := gV u, r2 := gV (gT u), mem := gV (gT (gT u)), hop := gV (gT (gT (gT u))) } } : Pkt).cells zA) 42 36 8 w1 (h1.holds (rX bc br _ _ (gT (gT (gT (gT u)))) bp (({ zPkt with kind := k, to := tt, c := { zCmt with r1 := gV u, r2 := gV (gT u), mem := gV (gT (gT u)), hop := gV (gT (gT (gT u))) } } : Pkt).cells zA) 42) (by (repeat (first | exact mH _ _ | apply mT)))) (by show 36 < 40; decide) rfl (W b3).1 (W b3).2 (by omega)).mono ?_; rintro v w2 ⟨rfl, a5, c5, cs5, X, st, hXd, hXe, hl5, hg5⟩; refine LR.back (St.did h1 (by (repeat (first | exact sH _ _ _ | apply sT))) rfl st (both_dep (rX_dep _ _ _ _ _ _ _ _) hXd)) ?_; clear st h1)))|((first|refine kR' ?_ ?_|refine kQ' ?_ ?_);all_goals(intro hc;try simp only[hcs]at hc;try(exfalso;first|contradiction|omega))))
        apply end0
        · exact rfl
        intro w' hS
        refine ⟨rfl, lst_end2 hF (hS.sub (L' := [both (rX bc br a5 c5 (lstR getE 8 (gT (gT (gT (gT u))))).2 bp cs5 42) X]) (by (repeat (first | exact List.Sublist.refl _ | apply List.Sublist.cons_cons | apply List.Sublist.cons)))) hXd hXe hl5 (fun h0 => ?_)⟩
        obtain ⟨sa, sc, hcs, hz, hX⟩ := hg5 h0
        exact ⟨{ zA with ca := sa, cc := sc }, hcs, fun w2 h2 => ⟨Rd.nil _ _, fun _ => rfl, Rd.nil _ _, fun _ => rfl, hX w2 h2, hz⟩, fun h => absurd rfl h⟩
    by_cases hk5 : k = 5
    · rw [if_neg hk1, if_neg hk2, if_neg hk3, if_neg hk4, if_pos hk5] at hr1
      subst hr1
      have q2 : rdN [37, 38] (({ zPkt with kind := k, to := tt } : Pkt).cells zA) u = ((({ zPkt with kind := k, to := tt, b1 := gV u, b2 := gV (gT u) } : Pkt).cells zA), (gT (gT u))) := (rd_cons rfl).trans ((rd_cons rfl).trans (rfl))
      have b2 := BB [37, 38] (({ zPkt with kind := k, to := tt } : Pkt).cells zA) b1
      rw [q2] at b2
      have q3 : rdN [39] (({ zPkt with kind := k, to := tt, b1 := gV u, b2 := gV (gT u) } : Pkt).cells zA) (gT (gT u)) = ((({ zPkt with kind := k, to := tt, b1 := gV u, b2 := gV (gT u), b3 := gV (gT (gT u)) } : Pkt).cells zA), (gT (gT (gT u)))) := (rd_cons rfl).trans (rfl)
      have b3 := BB [39] (({ zPkt with kind := k, to := tt, b1 := gV u, b2 := gV (gT u) } : Pkt).cells zA) b2
      rw [q3] at b3
      repeat'(first|(apply CW.reg_held (St w F []))|(apply Go.Hb.kK;(iterate 4 exact rfl);intro bs)|refine kv' ?_|apply jJ|refine jE' ?_|refine jp' ?_|(apply jc;kernel_rfl)|refine kg' ?_|refine kG' ?_|refine kB' fun _=>?_|refine kA' fun _=>?_|refine kK' fun _=>?_|refine kU' ?_|(apply LR.ev; (· apply Ev.load (v := .int .i64 e0); (· exact rfl); (· intro w' hw'; apply rX_e (br := br) (s := (l0, e0)) (b := bp) (cs := (({ zPkt with kind := k } : Pkt).cells zA)) (E := 42); apply hw'.holds; (repeat (first | exact mH _ _ | apply mT)); done)); (· exact rfl))|(apply LR.ev; (· apply Ev.load (v := .int .i64 k); (· exact rfl); (· intro w' hw'; apply rX_cell (br := br) (s := (l0, e0)) (b := bp) (cs := (({ zPkt with kind := k } : Pkt).cells zA)) (E := 42) (j := 0); (· apply hw'.holds; (repeat (first | exact mH _ _ | apply mT)); done); (· exact rfl))); (· exact rfl))|(apply LR.ev; (· apply Ev.load (v := .int .i64 k); (· exact rfl); (· intro w' hw'; apply rX_cell (br := br) (s := u) (b := bp) (cs := (({ zPkt with kind := k, to := tt } : Pkt).cells zA)) (E := 42) (j := 0); (· apply hw'.holds; (repeat (first | exact mH _ _ | apply mT)); done); (· exact rfl))); (· exact rfl))|(apply kq; (· exact rfl); (· intro w1 h1; exact CallsTo.q (p88 k 1 5 w1) h1))|(apply LR.call; (· exact rfl); (intro w1 h1; first | (refine (p87r bc br _ _ s bp (zPkt.cells zA) 42 bs [0] w1 (h1.holds (rX bc br _ _ s bp (zPkt.cells zA) 42) (by (repeat (first | exact mH _ _ | apply mT)))) (h1.rd_of_blk (by (repeat (first | exact mH _ _ | apply mT)))) (St.apart2 (x := .own bs (.cells _ 114 (0, 0))) h1 (.inl (by (repeat (first | exact List.Sublist.refl _ | apply List.Sublist.cons_cons | apply List.Sublist.cons)))) rfl bs rfl) (fun o ho => (show ∀ o ∈ ([0] : List Nat), o < 40 by decide) o ho) hB0.1 hB0.2 (by simp)).mono ?_; rintro v w2 ⟨_, _, rfl, st⟩; rw [q0] at st; refine LR.back (St.did h1 (by (repeat (first | exact sH _ _ _ | apply sT))) rfl st (rX_dep _ _ _ _ _ _ _ _)) ?_; clear st h1) | (refine (p87r bc br _ _ (l0, e0) bp (({ zPkt with kind := k } : Pkt).cells zA) 42 bs [1] w1 (h1.holds (rX bc br _ _ (l0, e0) bp (({ zPkt with kind := k } : Pkt).cells zA) 42) (by (repeat (first | exact mH _ _ | apply mT)))) (h1.rd_of_blk (by (repeat (first | exact mH _ _ | apply mT)))) (St.apart2 (x := .own bs (.cells _ 114 (0, 0))) h1 (.inl (by (repeat (first | exact List.Sublist.refl _ | apply List.Sublist.cons_cons | apply List.Sublist.cons)))) rfl bs rfl) (fun o ho => (show ∀ o ∈ ([1] : List Nat), o < 40 by decide) o ho) (W b0).1 (W b0).2 (by simp)).mono ?_; rintro v w2 ⟨_, _, rfl, st⟩; rw [q1] at st; refine LR.back (St.did h1 (by (repeat (first | exact sH _ _ _ | apply sT))) rfl st (rX_dep _ _ _ _ _ _ _ _)) ?_; clear st h1) | (refine (p89r bc br _ _ u bp (({ zPkt with kind := k, to := tt } : Pkt).cells zA) 42 37 w1 (h1.holds (rX bc br _ _ u bp (({ zPkt with kind := k, to := tt } : Pkt).cells zA) 42) (by (repeat (first | exact mH _ _ | apply mT)))) (by show 37 + 1 < 40; decide) (W b1).1 (W b1).2).mono ?_; rintro v w2 ⟨_, _, rfl, st⟩; rw [q2] at st; refine LR.back (St.did h1 (by (repeat (first | exact sH _ _ _ | apply sT))) rfl st (rX_dep _ _ _ _ _ _ _ _)) ?_; clear st h1) | (refine (p87r bc br _ _ (gT (gT u)) bp (({ zPkt with kind := k, to := tt, b1 := gV u, b2 := gV (gT u) } : Pkt).cells zA) 42 bs [39] w1 (h1.holds (rX bc br _ _ (gT (gT u)) bp (({ zPkt with kind := k, to := tt, b1 := gV u, b2 := gV (gT u) } : Pkt).cells zA) 42) (by (repeat (first | exact mH _ _ | apply mT)))) (h1.rd_of_blk (by (repeat (first | exact mH _ _ | apply mT)))) (St.apart2 (x := .own bs (.cells _ 114 (0, 0))) h1 (.inl (by (repeat (first | exact List.Sublist.refl _ | apply List.Sublist.cons_cons | apply List.Sublist.cons)))) rfl bs rfl) (fun o ho => (show ∀ o ∈ ([39] : List Nat), o < 40 by decide) o ho) (W b2).1 (W b2).2 (by simp)).mono ?_; rintro v w2 ⟨_, _, rfl, st⟩; rw [q3] at st; refine LR.back (St.did h1 (by (repeat (first | exact sH _ _ _ | apply sT))) rfl st (rX_dep _ _ _ _ _ _ _ _)) ?_; clear st h1)))|((first|refine kR' ?_ ?_|refine kQ' ?_ ?_);all_goals(intro hc;try simp only[hcs]at hc;try(exfalso;first|contradiction|omega))))
      all_goals
        apply end0
        · exact rfl
        intro w' hS
        exact ⟨rfl, lst_end hF (hS.sub (L' := [rX bc br _ _ (gT (gT (gT u))) bp (({ zPkt with kind := k, to := tt, b1 := gV u, b2 := gV (gT u), b3 := gV (gT (gT u)) } : Pkt).cells zA) 42]) (by (repeat (first | exact List.Sublist.refl _ | apply List.Sublist.cons_cons | apply List.Sublist.cons)))) rfl (fun h0 => ⟨zA, rfl, fun w2 h2 => ⟨Rd.nil _ _, fun _ => rfl, Rd.nil _ _, fun _ => rfl, Rd.nil _ _, fun _ => rfl⟩, fun h => absurd rfl h⟩)⟩
    have he : e0 ≠ 0 := by omega
    have e2 : getS (l0, e0) = (0, (l0, e0)) := getS_err he
    have hu2 : u = (l0, e0) := by rw [← hu]; unfold gT; rw [e2]
    rw [if_neg hk1, if_neg hk2, if_neg hk3, if_neg hk4, if_neg hk5] at hr1
    subst hr1
    repeat'(first|(apply CW.reg_held (St w F []))|(apply Go.Hb.kK;(iterate 4 exact rfl);intro bs)|refine kv' ?_|apply jJ|refine jE' ?_|refine jp' ?_|(apply jc;kernel_rfl)|refine kg' ?_|refine kG' ?_|refine kB' fun _=>?_|refine kA' fun _=>?_|refine kK' fun _=>?_|refine kU' ?_|(apply LR.ev; (· apply Ev.load (v := .int .i64 e0); (· exact rfl); (· intro w' hw'; apply rX_e (br := br) (s := (l0, e0)) (b := bp) (cs := (({ zPkt with kind := k } : Pkt).cells zA)) (E := 42); apply hw'.holds; (repeat (first | exact mH _ _ | apply mT)); done)); (· exact rfl))|(apply LR.ev; (· apply Ev.load (v := .int .i64 k); (· exact rfl); (· intro w' hw'; apply rX_cell (br := br) (s := (l0, e0)) (b := bp) (cs := (({ zPkt with kind := k } : Pkt).cells zA)) (E := 42) (j := 0); (· apply hw'.holds; (repeat (first | exact mH _ _ | apply mT)); done); (· exact rfl))); (· exact rfl))|(apply LR.ev; (· apply Ev.load (v := .int .i64 k); (· exact rfl); (· intro w' hw'; apply rX_cell (br := br) (s := u) (b := bp) (cs := (({ zPkt with kind := k, to := tt } : Pkt).cells zA)) (E := 42) (j := 0); (· apply hw'.holds; (repeat (first | exact mH _ _ | apply mT)); done); (· exact rfl))); (· exact rfl))|(apply kq; (· exact rfl); (· intro w1 h1; exact CallsTo.q (p88 k 1 5 w1) h1))|(apply LR.call; (· exact rfl); (intro w1 h1; first | (refine (p87r bc br _ _ s bp (zPkt.cells zA) 42 bs [0] w1 (h1.holds (rX bc br _ _ s bp (zPkt.cells zA) 42) (by (repeat (first | exact mH _ _ | apply mT)))) (h1.rd_of_blk (by (repeat (first | exact mH _ _ | apply mT)))) (St.apart2 (x := .own bs (.cells _ 114 (0, 0))) h1 (.inl (by (repeat (first | exact List.Sublist.refl _ | apply List.Sublist.cons_cons | apply List.Sublist.cons)))) rfl bs rfl) (fun o ho => (show ∀ o ∈ ([0] : List Nat), o < 40 by decide) o ho) hB0.1 hB0.2 (by simp)).mono ?_; rintro v w2 ⟨_, _, rfl, st⟩; rw [q0] at st; refine LR.back (St.did h1 (by (repeat (first | exact sH _ _ _ | apply sT))) rfl st (rX_dep _ _ _ _ _ _ _ _)) ?_; clear st h1) | (refine (p87r bc br _ _ (l0, e0) bp (({ zPkt with kind := k } : Pkt).cells zA) 42 bs [1] w1 (h1.holds (rX bc br _ _ (l0, e0) bp (({ zPkt with kind := k } : Pkt).cells zA) 42) (by (repeat (first | exact mH _ _ | apply mT)))) (h1.rd_of_blk (by (repeat (first | exact mH _ _ | apply mT)))) (St.apart2 (x := .own bs (.cells _ 114 (0, 0))) h1 (.inl (by (repeat (first | exact List.Sublist.refl _ | apply List.Sublist.cons_cons | apply List.Sublist.cons)))) rfl bs rfl) (fun o ho => (show ∀ o ∈ ([1] : List Nat), o < 40 by decide) o ho) (W b0).1 (W b0).2 (by simp)).mono ?_; rintro v w2 ⟨_, _, rfl, st⟩; rw [q1] at st; refine LR.back (St.did h1 (by (repeat (first | exact sH _ _ _ | apply sT))) rfl st (rX_dep _ _ _ _ _ _ _ _)) ?_; clear st h1)))|((first|refine kR' ?_ ?_|refine kQ' ?_ ?_);all_goals(intro hc;try simp only[hcs]at hc;try(exfalso;first|contradiction|omega))))
    all_goals
      apply end0
      · exact rfl
      intro w' hS
      exact ⟨rfl, lst_end hF (hS.sub (L' := [rX bc br _ _ u bp (({ zPkt with kind := k, to := tt } : Pkt).cells zA) 42]) (by (repeat (first | exact List.Sublist.refl _ | apply List.Sublist.cons_cons | apply List.Sublist.cons)))) rfl (fun h0 => absurd h0 (by rw [hu2]; exact he))⟩
end Go.Proofs.YtkolmkdbjagfcaaGreat
