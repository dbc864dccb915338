/-
  The numbers and examples of the chapter. Conditions: none.
-/
import Derived.Test.YtgblmkpfkcibiaaGreatRRNM3

set_option linter.unusedSimpArgs false
set_option linter.unusedVariables false
namespace Go.Proofs.YtgblmkpfkcibiaaGreat
open Go.Hb
attribute [local irreducible] LR CW At Ev thn blk finK noG again CallsTo DW QL dnext TW DP
set_option linter.unusedSimpArgs false
set_option linter.unusedVariables false
set_option maxRecDepth 100000

abbrev vB (b : Nat) (a : Option Addr) (c n : Nat) (top : Int) : Asrt := .own b (.cells [.slice a n c, .int .i64 top].toArray 79 (0, 0))
def vO (b : Nat) (a : Option Addr) (c : Nat) (es : List DaA) (top : Int) : Asrt := both (both (vB b a c es.length top) (dS a c es)) (bunD es)
theorem vO_dep (b : Nat) (a : Option Addr) (c : Nat) (es : List DaA) (top : Int) : (vO b a c es top).dep := both_dep (both_dep (Asrt.dep_own _ _) (osl.dep _ _ _ _ _)) (bun_dep DaA.dep es)
abbrev vR (b : Nat) (a : Option Addr) (c : Nat) (es : List DaA) (top : Int) : Asrt := .rd (vO b a c es top).foot (vO b a c es top).holds
section
variable {b c : Nat} {a : Option Addr} {es : List DaA} {top : Int} {w : World}
theorem vO_c (h : (vO b a c es top).holds w) : w.heap[b]? = some (.cells [.slice a es.length c, .int .i64 top].toArray 79 (0, 0)) := h.1.1
theorem vO_r (h : (vO b a c es top).holds w) : Rd w a (es.flatMap DaA.row) := by
  have : (dS a c es).holds w := h.1.2.1
  exact ownsRow_rd this
theorem vO_b (h : (vO b a c es top).holds w) {x : DaA} (hx : x ∈ es) : Rd w x.a (bv x.d.msg.body) := by
  have : (DaA.body x).holds w := h.2.1.1 x hx
  exact ownsRow_rd this
theorem vO_z (h : (vO b a c es top).holds w) {x : DaA} (hx : x ∈ es) (e : x.a = none) : x.c = 0 := body_nz (h.2.1.1 x hx) e
theorem vO_in (h : (vO b a c es top).holds w) : St w NoF [vR b a c es top] w :=
  (St.refl w NoF).old h (fun k hk => ⟨both_live h k hk, fun x => x⟩) (vO_dep _ _ _ _ _)
theorem vO_turn (h : (vO b a c es top).holds w) : St w (vO b a c es top).foot [vB b a c es.length top, dS a c es, bunD es] w :=
  ((St.one h (both_live h) (vO_dep _ _ _ _ _)).part (both_dep (Asrt.dep_own _ _) (osl.dep _ _ _ _ _)) (bun_dep DaA.dep es)).part (Asrt.dep_own _ _) (osl.dep _ _ _ _ _)
theorem vO_out {w0 : World} {F : Nat → Prop} {R : List Asrt} (h : St w0 F (vB b a c es.length top :: dS a c es :: bunD es :: R) w) : St w0 F (vO b a c es top :: R) w := by
  have h1 : St w0 F (both (vB b a c es.length top) (dS a c es) :: bunD es :: R) w := h.join rfl rfl
  exact h1.join rfl rfl
theorem v_out {w0 : World} {F : Nat → Prop} {L : List Asrt} (h : St w0 F L w) (hm : vR b a c es top ∈ L) : (vO b a c es top).holds w := h.holds (vR b a c es top) hm
theorem v_cell {w0 : World} {F : Nat → Prop} {L : List Asrt} {q : Nat} {v : Value} (h : St w0 F L w) (hm : vR b a c es top ∈ L) (hq : [Value.slice a es.length c, .int .i64 top][q]? = some v) : w.cell? ⟨b, q, none⟩ = some v := by
  rw [cell_own (vO_c (v_out h hm))]
  simpa using hq
theorem v_row {w0 : World} {F : Nat → Prop} {L : List Asrt} {bg og q i : Nat} {v : Value} (h : St w0 F L w) (hm : vR b (some ⟨bg, og, none⟩) c es top ∈ L) (hi : i < es.length) (j : Nat) (hj : (es[i]).row[j]? = some v) (hq : q = og + i * 18 + j) : w.cell? ⟨bg, q, none⟩ = some v :=
  row_cell DaA.row_len (vO_r (v_out h hm)) hi j hj hq
theorem v_form (h : (vO b a c es top).holds w) {i : Nat} (hi : i < es.length) : ∃ bg og, a = some ⟨bg, og, none⟩ := (vO_r h).form (rows_ne DaA.row_len (by decide) hi)
end
theorem t25 (w : World) : CallsTo Tryz.prog 20 [] w fun v w' => ∃ b, v = .pointer (some ⟨b, 0, none⟩) ∧ New1 (vO b none 0 [] 0) w w' := by
  refine go_in (n := 3) (St.refl _ NoF) Tryz.func20 rfl rfl ?_
  repeat'(first|refine kv' ?_|apply jJ|refine jE' ?_|refine jp' ?_|(apply jc;kernel_rfl)|refine kg' ?_|refine kG' ?_|refine kB' fun _=>?_|refine kA' fun _=>?_|refine kK' fun _=>?_|refine kU' ?_|((first|refine kR' ?_ ?_|refine kQ' ?_ ?_);all_goals(intro hc;try simp only[hcs]at hc;try(exfalso;first|contradiction|omega))))
  (apply ret1; (· exact rfl); intro w' hS)
  rename_i b
  have h1 := (hS.bun_nil DaA.dep).nilsl 45 18
  exact ⟨_, rfl, St.new1 (vO_out (R := []) (h1.perm (List.perm_append_comm (l₁ := [dS none 0 [], bunD []]) (l₂ := [_])))) rfl⟩
theorem t38 (b : Nat) (a : Option Addr) (c : Nat) (es : List DaA) (top : Int) (w : World) (h : (vO b a c es top).holds w) : CallsTo Tryz.prog 38 [.pointer (some ⟨b, 0, none⟩)] w fun v w' => v = .int .i64 top ∧ Grew w w' := by
  refine go_in (n := 7) (vO_in h) Tryz.func38 rfl rfl ?_
  repeat'(first|refine kv' ?_|apply jJ|refine jE' ?_|refine jp' ?_|(apply jc;kernel_rfl)|refine kg' ?_|refine kG' ?_|refine kB' fun _=>?_|refine kA' fun _=>?_|refine kK' fun _=>?_|refine kU' ?_|(apply LR.ev; (· apply Ev.load; (· exact rfl); (· exact fun w' hw' => v_cell hw' (by (repeat (first | exact mH _ _ | apply mT))) rfl)); (· exact rfl))|((first|refine kR' ?_ ?_|refine kQ' ?_ ?_);all_goals(intro hc;try simp only[hcs]at hc;try(exfalso;first|contradiction|omega))))
  (apply ret1; (· exact rfl); intro w' hS)
  exact ⟨rfl, hS.toKeep⟩
theorem fnd_at {es : List DaA} {s : Int} {i : Nat} (hi : i < es.length) (hn : ∀ x ∈ es.take i, x.d.seq ≠ s) (h : es[i].d.seq = s) : fnd es s = some es[i] := by
  unfold fnd
  have e : es = es.take i ++ es[i] :: es.drop (i + 1) := by rw [← List.drop_eq_getElem_cons hi, List.take_append_drop]
  rw [List.find?_eq_some_iff_append]
  refine ⟨by simpa using h, es.take i, es.drop (i + 1), e, fun x hx => ?_⟩
  simpa using hn x hx
set_option maxHeartbeats 2000000 in
theorem t33 (b : Nat) (a : Option Addr) (c : Nat) (es : List DaA) (top s : Int) (w : World) (h : (vO b a c es top).holds w) (hD : WOk (dats es)) (hl : es.length ≤ 100000) :
    CallsTo Tryz.prog 39 [.pointer (some ⟨b, 0, none⟩), .int .i64 s] w fun v w' => ∃ a' c', v = .tuple [(getT (dats es) s).val a' c', .bool (hasD (dats es) s)].toArray ∧ NewSl w w' (.slice a' (getT (dats es) s).msg.body.length c') 5 1 (getT (dats es) s).msg.body.length (bv (getT (dats es) s).msg.body) := by
  refine go_in (n := 35) (vO_in h) Tryz.func39 rfl rfl ?_
  have hfd := fnd_d es s
  have hg : getT (dats es) s = ((fnd es s).map DaA.d).getD zeroDat := by unfold getT; rw [hfd]
  rw [← fnd_has, ← hfd, hg, Option.isSome_map]
  repeat'(first|refine kv' ?_|apply jJ|refine jE' ?_|refine jp' ?_|(apply jc;kernel_rfl)|refine kg' ?_|refine kG' ?_|refine kB' fun _=>?_|refine kA' fun _=>?_|refine kK' fun _=>?_|refine kU' ?_|((first|refine kR' ?_ ?_|refine kQ' ?_ ?_);all_goals(intro hc;try simp only[hcs]at hc;try(exfalso;first|contradiction|omega))))
  rename_i b4
  apply CW.loop [5, 6, 7, 8, 9, 10, 11, 12, 13, 14, 15, 16, 17, 18, 19, 20, 21, 22, 23, 24, 25, 26, 27, 28, 29, 30, 31, 32, 33] (fun i : Nat => i ≤ es.length ∧ ∀ x ∈ es.take i, x.d.seq ≠ s) (fun i => [(6, .int .i64 (i : Int))])
    (fun i => St w NoF [.own b4 (.cells (zeroDat.cells none 0).toArray 45 (0, 0)), vR b a c es top]) (fun i => es.length - i)
  · exact fun w' hw' => ⟨0, ⟨by omega, by simp⟩, ⟨rfl, trivial⟩, hw'⟩
  intro i g' ⟨hi, hno⟩
  by_cases hlt : i < es.length
  · obtain ⟨bg, og, rfl⟩ := v_form h hlt
    have hmem : es[i] ∈ es := List.getElem_mem hlt
    have hlen : es[i].d.msg.body.length ≤ 140737488351232 := hD.len _ (List.mem_map_of_mem hmem)
    repeat'(first|refine kv' ?_|apply jJ|refine jE' ?_|refine jp' ?_|(apply jc;kernel_rfl)|refine kg' ?_|refine kG' ?_|refine kB' fun _=>?_|refine kA' fun _=>?_|refine kK' fun _=>?_|refine kU' ?_|(apply idxX;(iterate 2 exact rfl);(iterate 2(first|omega|(dsimp only;omega)));exact rfl)|(apply LR.ev; (· first | (apply Ev.load; (· exact rfl); (· exact fun w' hw' => v_cell hw' (by (repeat (first | exact mH _ _ | apply mT))) rfl)) | (apply Ev.load; (· exact rfl); (· exact fun w' hw' => v_row hw' (by (repeat (first | exact mH _ _ | apply mT))) hlt 2 rfl (by simp))) | (apply Ev.load_agg_at (cs := es[i].row); (· exact rfl); (· exact rfl); (· intro w' hw'; exact rd_row DaA.row_len (vO_r (v_out hw' (by (repeat (first | exact mH _ _ | apply mT))))) hlt (by simp)))); (· exact rfl))|(apply addX;(iterate 2 exact rfl);(iterate 2(first|omega|(dsimp only;omega)));exact rfl)|(apply LR.call; (· exact rfl); (intro w1 h1; refine (t28 es[i].d es[i].a es[i].c w1 (vO_b (v_out h1 (by (repeat (first | exact mH _ _ | apply mT)))) hmem) (vO_z (v_out h1 (by (repeat (first | exact mH _ _ | apply mT)))) hmem) (by omega)).mono ?_; rintro v w2 ⟨a2, c2, rfl, hn⟩; refine LR.back (h1.newSl hn) ?_; clear hn h1))|((first|refine kR' ?_ ?_|refine kQ' ?_ ?_);all_goals(intro hc;try simp only[hcs]at hc;try(exfalso;first|contradiction|omega))))
    · (apply ret2c; (· exact rfl); (· exact inferInstance); (· exact rfl); (· (repeat (first | exact List.Mem.head _ | apply List.Mem.tail))); (· exact rfl); intro w' hS)
      rw [fnd_at hlt hno (by assumption)]
      exact ⟨_, _, rfl, hS.toNew (by (repeat (first | exact mH _ _ | apply mT)))⟩
    · refine At.again (i + 1) ⟨by omega, ?_⟩ ?_ ⟨rfl, trivial⟩ (fun w' hw' => hw'.sub (by (repeat (first | exact List.Sublist.refl _ | apply List.Sublist.cons_cons | apply List.Sublist.cons)))) (by omega)
      · intro x hx
        rw [List.take_add_one, List.getElem?_eq_getElem hlt] at hx
        rcases List.mem_append.1 hx with hx | hx
        · exact hno x hx
        · simp at hx
          subst hx
          assumption
      · (repeat (first | exact Out.refl _ _ | exact Out.mix | (apply Out.upd; (· exact rfl)) | (apply Out.updL; (· exact rfl)) | (apply Out.mixs; (· exact rfl))))
  · have hie : i = es.length := by omega
    subst hie
    rw [List.take_length] at hno
    have hnone : fnd es s = none := by
      unfold fnd
      rw [List.find?_eq_none]
      intro x hx
      simpa using hno x hx
    repeat'(first|refine kv' ?_|apply jJ|refine jE' ?_|refine jp' ?_|(apply jc;kernel_rfl)|refine kg' ?_|refine kG' ?_|refine kB' fun _=>?_|refine kA' fun _=>?_|refine kK' fun _=>?_|refine kU' ?_|(apply LR.ev; (· apply Ev.load; (· exact rfl); (· exact fun w' hw' => v_cell hw' (by (repeat (first | exact mH _ _ | apply mT))) rfl)); (· exact rfl))|((first|refine kR' ?_ ?_|refine kQ' ?_ ?_);all_goals(intro hc;try simp only[hcs]at hc;try(exfalso;first|contradiction|omega))))
    (apply ret2c; (· exact rfl); (· exact inferInstance); (· exact rfl); (· (repeat (first | exact List.Mem.head _ | apply List.Mem.tail))); (· exact rfl); intro w' hS)
    rw [hnone]
    exact ⟨none, 0, rfl, (hS.nilsl 5 1).toNew (by (repeat (first | exact mH _ _ | apply mT)))⟩
end Go.Proofs.YtgblmkpfkcibiaaGreat

namespace Go.Proofs.YtgblmkpfkcibiaaGreat
open Go.Hb
attribute [local irreducible] LR CW At Ev thn blk finK noG again CallsTo DW QL dnext TW DP
set_option linter.unusedSimpArgs false
set_option linter.unusedVariables false
set_option maxRecDepth 100000

set_option maxHeartbeats 2000000 in
theorem t30 (b : Nat) (a0 : Option Addr) (c0 : Nat) (es : List DaA) (top : Int) (d : Dat) (a : Option Addr) (c : Nat) (w : World) (h : (vO b a0 c0 es top).holds w) (hD : WOk (dats es)) (hl : es.length ≤ 100000)
    (hr : Rd w a (bv d.msg.body)) (hz : a = none → c = 0) (hd : ∀ k, rdFoot a (bv d.msg.body) k → ¬ (vO b a0 c0 es top).foot k) (hm : d.msg.body.length ≤ 140737488351232) :
    CallsTo Tryz.prog 21 [.pointer (some ⟨b, 0, none⟩), d.val a c] w fun v w' => ∃ es' a' c', v = .tuple [.bool (wpNew (dats es) d), .int .i64 (wpE d)].toArray ∧ dats es' = wpD (dats es) d ∧ es'.length ≤ es.length + 1 ∧ Step (vO b a0 c0 es top) (vO b a' c' es' (wpH (dats es) top d)) w w' := by
  refine go_in (n := 51) ((vO_turn h).addRd hr hd) Tryz.func21 rfl rfl ?_
  repeat'(first|(apply kB;(iterate 2 exact rfl);intro b3)|(apply CW.reg_sink 11 (St w (vO b a0 c0 es top).foot [.own b3 (.cells (d.cells a c).toArray 45 (0, 0)), rdA a (bv d.msg.body), vB b a0 c0 es.length top, bunD es]); (· exact rfl); (· decide +kernel))|refine kv' ?_|apply jJ|refine jE' ?_|refine jp' ?_|(apply jc;kernel_rfl)|refine kg' ?_|refine kG' ?_|refine kB' fun _=>?_|refine kA' fun _=>?_|refine kK' fun _=>?_|refine kU' ?_|(apply kq; (· exact rfl); (· intro w1 h1; exact CallsTo.q (c97 _ _ w1) h1))|(apply LR.call; (· exact rfl); (intro w1 h1; refine (t33 b a0 c0 es top d.seq w1 (vO_out (R := []) (h1.sub (by (repeat (first | exact List.Sublist.refl _ | apply List.Sublist.cons_cons | apply List.Sublist.cons))))).g0 hD hl).mono ?_; rintro v w2 ⟨a2, c2, rfl, hn⟩; refine LR.back (h1.newSl hn) ?_; clear hn h1))|((first|refine kR' ?_ ?_|refine kQ' ?_ ?_);all_goals(intro hc;try simp only[hcs]at hc;try(exfalso;first|contradiction|omega))))
  all_goals (
    first
    | ((apply ret2; (· exact rfl); intro w' hS)
       have hno : wpNew (dats es) d = false := by unfold wpNew wpOk; rw [decide_eq_false (by omega)]; rfl
       have e1 : wpD (dats es) d = dats es := by unfold wpD; rw [hno]; rfl
       have e2 : wpH (dats es) top d = top := by unfold wpH; rw [hno]; rfl
       have e3 : wpE d = 2 := by unfold wpE wpOk; rw [decide_eq_false (by omega)]; rfl
       rw [e1, e2, e3, hno]
       exact ⟨es, a0, c0, rfl, rfl, by omega, (vO_out (R := []) (hS.sub (by (repeat (first | exact List.Sublist.refl _ | apply List.Sublist.cons_cons | apply List.Sublist.cons))))).step rfl⟩)
    | skip)
  · (apply ret2; (· exact rfl); intro w' hS)
    have hno : wpNew (dats es) d = false := by unfold wpNew; rw [show hasD (dats es) d.seq = true by assumption]; simp
    have e1 : wpD (dats es) d = dats es := by unfold wpD; rw [hno]; rfl
    have e2 : wpH (dats es) top d = top := by unfold wpH; rw [hno]; rfl
    have e3 : wpE d = 0 := by unfold wpE wpOk; rw [decide_eq_true (by omega)]; rfl
    rw [e1, e2, e3, hno]
    exact ⟨es, a0, c0, rfl, rfl, by omega, (vO_out (R := []) (hS.sub (by (repeat (first | exact List.Sublist.refl _ | apply List.Sublist.cons_cons | apply List.Sublist.cons))))).step rfl⟩
  have hno : hasD (dats es) d.seq = false := by assumption
  have hok : wpOk d = true := by unfold wpOk; exact decide_eq_true ⟨by assumption, by assumption, by assumption⟩
  have hnew : wpNew (dats es) d = true := by unfold wpNew; rw [hok, hno]; rfl
  have e1 : wpD (dats es) d = dats es ++ [d] := by unfold wpD; rw [hnew]; rfl
  have e2 : wpH (dats es) top d = max top d.seq := by unfold wpH; rw [hnew]; rfl
  have e3 : wpE d = 0 := by unfold wpE; rw [hok]; rfl
  rw [e1, e2, e3, hnew]
  generalize hF : (vO b a0 c0 es top).foot = F at *
  all_goals (
    apply DW.quiet [0, 1, 2, 3, 4, 5]
    · decide +kernel
    · first | exact fun _ h => h | exact fun _ h => St.sub h (by repeat (first | exact List.Sublist.refl _ | apply List.Sublist.cons_cons | apply List.Sublist.cons))
    repeat'(first|refine yv' ?_|refine uv' ?_|refine un' ?_|(refine us' ?_ ?_;all_goals(intro hc;try simp only[hcs]at hc;try(exfalso;first|contradiction|omega)))|apply QL.nil)
    all_goals (show DW _ _ _ _ _ _ _ _))
  all_goals (
    apply DW.loud 6
    · exact rfl
    · decide +kernel
    repeat'(first|refine kg' ?_|refine kG' ?_|apply kM|refine kv' ?_|refine kK' fun _=>?_|refine kU' ?_|refine kB' fun _=>?_|refine kA' fun _=>?_|(apply LR.call; (· exact rfl); (intro w1 h1; refine (t28 d a c w1 (h1.rd_of (by (repeat (first | exact mH _ _ | apply mT)))) hz (by omega)).mono ?_; rintro v w2 ⟨a3, c3, rfl, hn⟩; refine LR.back (h1.newSl hn) ?_; clear hn h1))|(apply LR.append (xs := es.flatMap DaA.row) (news := DaA.row ⟨d, a3, c3⟩) (m := 1); (· exact rfl); (· exact rfl); (· intro a' c'; (repeat (first | exact sH _ _ _ | apply sT))); (· exact fun w' hw' => hw'.rd_of_blk (mH _ _)); (· exact fun hx => by cases hx); (· exact rfl); (· simp [DaA.row, Dat.cells, Msg.cells, Value.oneCell']); (· omega); (· unfold maxLen; omega); (· exact rfl); (intro a4 c4)))
    all_goals (refine At.stage_same (fun _ h => St.sub h (by repeat (first | exact List.Sublist.refl _ | apply List.Sublist.cons_cons | apply List.Sublist.cons))) ?_))
  all_goals (
    apply DW.loud 7
    · exact rfl
    · decide +kernel
    repeat'(first|refine kg' ?_|refine kG' ?_|apply kM|refine kv' ?_|refine kK' fun _=>?_|refine kU' ?_|refine kB' fun _=>?_|refine kA' fun _=>?_|(apply LR.call; (· exact rfl); (intro w1 h1; refine (t28 d a c w1 (h1.rd_of (by (repeat (first | exact mH _ _ | apply mT)))) hz (by omega)).mono ?_; rintro v w2 ⟨a3, c3, rfl, hn⟩; refine LR.back (h1.newSl hn) ?_; clear hn h1))|(apply LR.append (xs := es.flatMap DaA.row) (news := DaA.row ⟨d, a3, c3⟩) (m := 1); (· exact rfl); (· exact rfl); (· intro a' c'; (repeat (first | exact sH _ _ _ | apply sT))); (· exact fun w' hw' => hw'.rd_of_blk (mH _ _)); (· exact fun hx => by cases hx); (· exact rfl); (· simp [DaA.row, Dat.cells, Msg.cells, Value.oneCell']); (· omega); (· unfold maxLen; omega); (· exact rfl); (intro a4 c4)))
    all_goals (refine At.stage_same (fun _ h => St.sub h (by repeat (first | exact List.Sublist.refl _ | apply List.Sublist.cons_cons | apply List.Sublist.cons))) ?_))
  all_goals (
    apply DW.loud 8
    · exact rfl
    · decide +kernel
    repeat'(first|refine kg' ?_|refine kG' ?_|apply kM|refine kv' ?_|refine kK' fun _=>?_|refine kU' ?_|refine kB' fun _=>?_|refine kA' fun _=>?_|(apply LR.call; (· exact rfl); (intro w1 h1; refine (t28 d a c w1 (h1.rd_of (by (repeat (first | exact mH _ _ | apply mT)))) hz (by omega)).mono ?_; rintro v w2 ⟨a3, c3, rfl, hn⟩; refine LR.back (h1.newSl hn) ?_; clear hn h1))|(apply LR.append (xs := es.flatMap DaA.row) (news := DaA.row ⟨d, a3, c3⟩) (m := 1); (· exact rfl); (· exact rfl); (· intro a' c'; (repeat (first | exact sH _ _ _ | apply sT))); (· exact fun w' hw' => hw'.rd_of_blk (mH _ _)); (· exact fun hx => by cases hx); (· exact rfl); (· simp [DaA.row, Dat.cells, Msg.cells, Value.oneCell']); (· omega); (· unfold maxLen; omega); (· exact rfl); (intro a4 c4)))
    all_goals (refine At.stage_same (fun _ h => St.sub h (by repeat (first | exact List.Sublist.refl _ | apply List.Sublist.cons_cons | apply List.Sublist.cons))) ?_))
  all_goals (
    apply DW.quiet [9, 10]
    · decide +kernel
    · first | exact fun _ h => h | exact fun _ h => St.sub h (by repeat (first | exact List.Sublist.refl _ | apply List.Sublist.cons_cons | apply List.Sublist.cons))
    repeat'(first|refine yv' ?_|refine uv' ?_|refine un' ?_|(refine us' ?_ ?_;all_goals(intro hc;try simp only[hcs]at hc;try(exfalso;first|contradiction|omega)))|apply QL.nil)
    all_goals (show DW _ _ _ _ _ _ _ _))
  all_goals (apply DW.done; (· decide +kernel))
  all_goals apply At.sink
  repeat'(first|(apply CW.reg_sinkC 10; (· exact rfl); (· decide +kernel))|refine kv' ?_|apply jJ|refine jE' ?_|refine jp' ?_|(apply jc;kernel_rfl)|refine kg' ?_|refine kG' ?_|refine kB' fun _=>?_|refine kA' fun _=>?_|refine kK' fun _=>?_|refine kU' ?_|((first|refine kR' ?_ ?_|refine kQ' ?_ ?_);all_goals(intro hc;try simp only[hcs]at hc;try(exfalso;first|contradiction|omega))))
  all_goals (
    apply DW.quiet [0, 1, 2, 3, 4, 5, 6, 7, 8, 9]
    · decide +kernel
    · first | exact fun _ h => h | exact fun _ h => St.sub h (by repeat (first | exact List.Sublist.refl _ | apply List.Sublist.cons_cons | apply List.Sublist.cons))
    repeat'(first|refine yv' ?_|(apply QL.ev; (· exact rfl); (· apply Ev.max2; (· exact rfl); (· exact rfl)); (· exact rfl))|refine uv' ?_|refine un' ?_|(refine us' ?_ ?_;all_goals(intro hc;try simp only[hcs]at hc;try(exfalso;first|contradiction|omega)))|apply QL.nil)
    all_goals (show DW _ _ _ _ _ _ _ _))
  all_goals (apply DW.done; (· decide +kernel))
  all_goals apply At.sink
  rw [maxI]
  repeat'(first|refine kv' ?_|apply jJ|refine jE' ?_|refine jp' ?_|(apply jc;kernel_rfl)|refine kg' ?_|refine kG' ?_|refine kB' fun _=>?_|refine kA' fun _=>?_|refine kK' fun _=>?_|refine kU' ?_|((first|refine kR' ?_ ?_|refine kQ' ?_ ?_);all_goals(intro hc;try simp only[hcs]at hc;try(exfalso;first|contradiction|omega))))
  (apply ret2; (· exact rfl); intro w' hS)
  subst hF
  have h1 : St w _ [(⟨d, a3, c3⟩ : DaA).body, vB b a4 c4 (es.length + 1) (max top d.seq), osl (.slice a4 (es.length + 1) c4) 45 18 (es.length + 1) (es.flatMap DaA.row ++ (⟨d, a3, c3⟩ : DaA).row), bunD es] w' := hS.sub (by (repeat (first | exact List.Sublist.refl _ | apply List.Sublist.cons_cons | apply List.Sublist.cons)))
  have h2 : St w _ [(⟨d, a3, c3⟩ : DaA).body, osl (.slice a4 (es.length + 1) c4) 45 18 (es.length + 1) (es.flatMap DaA.row ++ (⟨d, a3, c3⟩ : DaA).row), bunD es, vB b a4 c4 (es.length + 1) (max top d.seq)] w' := front (front (front (front h1 1 rfl rfl) 3 rfl rfl) 3 rfl rfl) 3 rfl rfl
  have h3 := d_push h2
  have hlen : es.length + 1 = (es ++ [(⟨d, a3, c3⟩ : DaA)]).length := by simp
  rw [hlen] at h3
  have h4 : St w _ [vB b a4 c4 (es ++ [(⟨d, a3, c3⟩ : DaA)]).length (max top d.seq), dS a4 c4 (es ++ [⟨d, a3, c3⟩]), bunD (es ++ [⟨d, a3, c3⟩])] w' := front h3 2 rfl rfl
  exact ⟨es ++ [⟨d, a3, c3⟩], a4, c4, rfl, dats_snoc _ _, by simp, (vO_out (R := []) h4).step rfl⟩
theorem t36 (b : Nat) (a : Option Addr) (c : Nat) (es : List DaA) (top n : Int) (w : World) (h : (vO b a c es top).holds w) (hD : WOk (dats es)) (hl : es.length ≤ 100000) (hn : IsAru (dats es) n) :
    CallsTo Tryz.prog 37 [.pointer (some ⟨b, 0, none⟩)] w fun v w' => v = .int .i64 n ∧ Grew w w' := by
  refine go_in (n := 18) (vO_in h) Tryz.func37 rfl rfl ?_
  have hnb := hn.1.le hD
  have hn0 := hn.1.1
  repeat'(first|refine kv' ?_|apply jJ|refine jE' ?_|refine jp' ?_|(apply jc;kernel_rfl)|refine kg' ?_|refine kG' ?_|refine kB' fun _=>?_|refine kA' fun _=>?_|refine kK' fun _=>?_|refine kU' ?_|((first|refine kR' ?_ ?_|refine kQ' ?_ ?_);all_goals(intro hc;try simp only[hcs]at hc;try(exfalso;first|contradiction|omega))))
  apply CW.loop [2, 3, 4, 5, 6, 7, 8, 9, 10, 11, 12, 13, 14, 15, 16, 17] (fun i : Int => Upto (dats es) i) (fun i => [(3, .int .i64 i)])
    (fun i => St w NoF [vR b a c es top]) (fun i => (n - i).toNat)
  · exact fun w' hw' => ⟨0, ⟨by omega, fun s h1 h2 => by omega⟩, ⟨rfl, trivial⟩, hw'⟩
  intro i g' hi
  have hi0 := hi.1
  have hib := hi.le hD
  by_cases hx : hasD (dats es) (i + 1) = true
  · have hi2 := hi.next hx
    have hlt : i < n := by
      rcases Int.lt_or_le i n with h1 | h1
      · exact h1
      · have := hi2.2 (n + 1) (by omega) (by omega)
        rw [hn.2] at this
        cases this
    have hib2 := hi2.le hD
    repeat'(first|refine kv' ?_|apply jJ|refine jE' ?_|refine jp' ?_|(apply jc;kernel_rfl)|refine kg' ?_|refine kG' ?_|refine kB' fun _=>?_|refine kA' fun _=>?_|refine kK' fun _=>?_|refine kU' ?_|(apply addX;(iterate 2 exact rfl);(iterate 2(first|omega|(dsimp only;omega)));exact rfl)|(apply LR.call; (· exact rfl); (intro w1 h1; have ht := t33 b a c es top (i + 1) w1 (v_out h1 (by (repeat (first | exact mH _ _ | apply mT)))) hD hl; rw [hx] at ht; refine ht.mono ?_; rintro v w2 ⟨a2, c2, rfl, hn2⟩; refine LR.back (h1.newSl hn2) ?_; clear hn2 h1))|((first|refine kR' ?_ ?_|refine kQ' ?_ ?_);all_goals(intro hc;try simp only[hcs]at hc;try(exfalso;first|contradiction|omega))))
    refine At.again (i + 1) hi2 ?_ ⟨rfl, trivial⟩ (fun w' hw' => hw'.sub (by (repeat (first | exact List.Sublist.refl _ | apply List.Sublist.cons_cons | apply List.Sublist.cons)))) (by omega)
    (repeat (first | exact Out.refl _ _ | exact Out.mix | (apply Out.upd; (· exact rfl)) | (apply Out.updL; (· exact rfl)) | (apply Out.mixs; (· exact rfl))))
  · have hx : hasD (dats es) (i + 1) = false := by simpa using hx
    have hin : i = n := IsAru.uniq ⟨hi, hx⟩ hn
    repeat'(first|refine kv' ?_|apply jJ|refine jE' ?_|refine jp' ?_|(apply jc;kernel_rfl)|refine kg' ?_|refine kG' ?_|refine kB' fun _=>?_|refine kA' fun _=>?_|refine kK' fun _=>?_|refine kU' ?_|(apply addX;(iterate 2 exact rfl);(iterate 2(first|omega|(dsimp only;omega)));exact rfl)|(apply LR.call; (· exact rfl); (intro w1 h1; have ht := t33 b a c es top (i + 1) w1 (v_out h1 (by (repeat (first | exact mH _ _ | apply mT)))) hD hl; rw [hx] at ht; refine ht.mono ?_; rintro v w2 ⟨a2, c2, rfl, hn2⟩; refine LR.back (h1.newSl hn2) ?_; clear hn2 h1))|((first|refine kR' ?_ ?_|refine kQ' ?_ ?_);all_goals(intro hc;try simp only[hcs]at hc;try(exfalso;first|contradiction|omega))))
    (apply ret1; (· exact rfl); intro w' hS)
    rw [← hin]
    exact ⟨rfl, hS.toKeep⟩
end Go.Proofs.YtgblmkpfkcibiaaGreat

namespace Go.Proofs.YtgblmkpfkcibiaaGreat
open Go.Hb
attribute [local irreducible] LR CW At Ev thn blk finK noG again CallsTo DW QL dnext TW DP
set_option linter.unusedSimpArgs false
set_option linter.unusedVariables false
set_option maxRecDepth 100000

end Go.Proofs.YtgblmkpfkcibiaaGreat

namespace Go.Proofs.YtgblmkpfkcibiaaGreat
open Go.Hb
attribute [local irreducible] LR CW At Ev thn blk finK noG again CallsTo DW QL dnext TW DP
set_option linter.unusedSimpArgs false
set_option linter.unusedVariables false
set_option maxRecDepth 100000

theorem sqs_asc {D : List Dat} (h : WOk D) : (sqs D).Pairwise (· < ·) := by
  have h1 : (sqs D).Pairwise (· ≤ ·) := by
    have := List.pairwise_mergeSort (le := fun x y : Int => decide (x ≤ y)) (fun a b c h1 h2 => by simp only [decide_eq_true_eq] at *; omega) (fun a b => by simp only [Bool.or_eq_true, decide_eq_true_eq]; omega) (D.map Dat.seq)
    exact this.imp (fun hab => by simpa using hab)
  have h2 : (sqs D).Nodup := (List.mergeSort_perm _ _).nodup_iff.2 h.nodup
  exact (h1.and h2).imp (fun ⟨ha, hb⟩ => by omega)
structure Ust where
  P : List Int
  R : List Int
  last : Int
  o : List DaA
  a : Option Addr
  c : Nat
def atV : Option Nat → Int
  | none => -1
  | some j => (j : Int)
/-- The least one above the last one, of the first i. -/
def Least (es : List DaA) (last : Int) (i : Nat) : Option Nat → Prop
  | none => ∀ x ∈ es.take i, ¬ last < x.d.seq
  | some j => ∃ h : j < es.length, j < i ∧ last < es[j].d.seq ∧ ∀ x ∈ es.take i, last < x.d.seq → es[j].d.seq ≤ x.d.seq
theorem mem_takeS {es : List DaA} {i : Nat} (h : i < es.length) {x : DaA} : x ∈ es.take (i + 1) ↔ x ∈ es.take i ∨ x = es[i] := by
  rw [List.take_add_one, List.getElem?_eq_getElem h, List.mem_append]
  simp only [Option.toList_some, List.mem_singleton]
theorem least_no {es : List DaA} {last : Int} {i : Nat} {j : Option Nat} (h : i < es.length) (hL : Least es last i j) (hn : ¬ last < es[i].d.seq) : Least es last (i + 1) j := by
  cases j with
  | none =>
    intro x hx
    rcases (mem_takeS h).1 hx with hx | rfl
    · exact hL x hx
    · exact hn
  | some j =>
    obtain ⟨h1, h2, h3, h4⟩ := hL
    refine ⟨h1, by omega, h3, fun x hx hl => ?_⟩
    rcases (mem_takeS h).1 hx with hx | rfl
    · exact h4 x hx hl
    · exact absurd hl hn
theorem least_keep {es : List DaA} {last : Int} {i j : Nat} (h : i < es.length) (hj : j < es.length) (hL : Least es last i (some j)) (hn : ¬ es[i].d.seq < es[j].d.seq) : Least es last (i + 1) (some j) := by
  obtain ⟨h1, h2, h3, h4⟩ := hL
  refine ⟨h1, by omega, h3, fun x hx hl => ?_⟩
  rcases (mem_takeS h).1 hx with hx | rfl
  · exact h4 x hx hl
  · omega
theorem least_new {es : List DaA} {last : Int} {i : Nat} {j : Option Nat} (h : i < es.length) (hL : Least es last i j) (hn : last < es[i].d.seq) (hlt : ∀ k, (hk : k < es.length) → j = some k → es[i].d.seq < es[k].d.seq) : Least es last (i + 1) (some i) := by
  refine ⟨h, by omega, hn, fun x hx hl => ?_⟩
  rcases (mem_takeS h).1 hx with hx | rfl
  · cases j with
    | none => exact absurd hl (hL x hx)
    | some k =>
      obtain ⟨h1, h2, h3, h4⟩ := hL
      have := hlt k h1 rfl
      have := h4 x hx hl
      omega
  · omega
theorem least_end {es : List DaA} {last : Int} {R : List Int} {j : Option Nat} (hR : ∀ x, x ∈ R ↔ hasD (dats es) x = true ∧ last < x) (hp : R.Pairwise (· < ·)) (hL : Least es last es.length j) :
    (j = none ∧ R = []) ∨ ∃ k, ∃ hk : k < es.length, j = some k ∧ ∃ R', R = es[k].d.seq :: R' := by
  have hin : ∀ x ∈ es, last < x.d.seq → x.d.seq ∈ R := fun x hx hl => (hR _).2 ⟨has_iff.2 ⟨x.d, List.mem_map_of_mem hx, rfl⟩, hl⟩
  have hout : ∀ s ∈ R, ∃ x ∈ es, x.d.seq = s ∧ last < s := fun s hs => by
    obtain ⟨h1, h2⟩ := (hR s).1 hs
    obtain ⟨d, hd, he⟩ := has_iff.1 h1
    obtain ⟨x, hx, rfl⟩ := List.mem_map.1 hd
    exact ⟨x, hx, he, h2⟩
  cases j with
  | none =>
    refine .inl ⟨rfl, ?_⟩
    have hL : ∀ x ∈ es.take es.length, ¬ last < x.d.seq := hL
    rw [List.take_length] at hL
    cases R with
    | nil => rfl
    | cons y R' =>
      obtain ⟨x, hx, he, hl⟩ := hout y (List.mem_cons_self ..)
      exact absurd (by rw [he]; exact hl) (hL x hx)
  | some k =>
    obtain ⟨h1, h2, h3, h4⟩ := hL
    rw [List.take_length] at h4
    have hk := hin _ (List.getElem_mem h1) h3
    cases R with
    | nil => cases hk
    | cons y R' =>
      obtain ⟨x, hx, he, hl⟩ := hout y (List.mem_cons_self ..)
      have h5 := h4 x hx (by omega)
      refine .inr ⟨k, h1, rfl, R', ?_⟩
      rcases List.mem_cons.1 hk with hk | hk
      · rw [hk]
      · have := (List.pairwise_cons.1 hp).1 _ hk
        omega
theorem rest_next {D : List Dat} {last y : Int} {R : List Int} (hR : ∀ x, x ∈ y :: R ↔ hasD D x = true ∧ last < x) (hp : (y :: R).Pairwise (· < ·)) : ∀ x, x ∈ R ↔ hasD D x = true ∧ y < x := by
  intro x
  obtain ⟨h1, h2⟩ := List.pairwise_cons.1 hp
  constructor
  · intro hx
    exact ⟨((hR x).1 (List.mem_cons_of_mem _ hx)).1, h1 x hx⟩
  · rintro ⟨h3, h4⟩
    have h5 := ((hR y).1 (List.mem_cons_self ..)).2
    rcases List.mem_cons.1 ((hR x).2 ⟨h3, by omega⟩) with h6 | h6
    · omega
    · exact h6
theorem fndD_of : ∀ {D : List Dat}, (D.map Dat.seq).Nodup → ∀ {d : Dat}, d ∈ D → fndD D d.seq = some d
  | [], _, d, hd => by cases hd
  | x :: r, h, d, hd => by
    rw [List.map_cons, List.nodup_cons] at h
    unfold fndD
    rw [List.find?_cons]
    rcases List.mem_cons.1 hd with rfl | hd
    · simp
    · have hne : ¬ x.seq = d.seq := fun e => h.1 (by rw [e]; exact List.mem_map_of_mem hd)
      rw [decide_eq_false hne]
      exact fndD_of h.2 hd
theorem getT_of {D : List Dat} (h : (D.map Dat.seq).Nodup) {d : Dat} (hd : d ∈ D) : getT D d.seq = d := by unfold getT; rw [fndD_of h hd]; rfl
set_option maxHeartbeats 2000000 in
theorem t42 (b : Nat) (a0 : Option Addr) (c0 : Nat) (es : List DaA) (top q : Int) (w : World) (h : (vO b a0 c0 es top).holds w) (hD : WOk (dats es)) (hl : es.length ≤ 100000) :
    CallsTo Tryz.prog 24 [.pointer (some ⟨b, 0, none⟩), .int .i64 q] w fun v w' => ∃ a' c' o, v = .slice a' o.length c' ∧ dats o = abvT (dats es) q ∧ New1 (dO a' c' o) w w' := by
  refine go_in (n := 75) (vO_in h) Tryz.func24 rfl rfl ?_
  have hasc := sqs_asc hD
  have hlA : ((sqs (dats es)).filter fun s => decide (q < s)).length ≤ es.length := by
    refine Nat.le_trans (List.length_filter_le _ _) ?_
    rw [sqs_len]
    simp [dats]
  have hAp := hasc.filter (fun s => decide (q < s))
  have hAm : ∀ x, x ∈ ((sqs (dats es)).filter fun s => decide (q < s)) ↔ hasD (dats es) x = true ∧ q < x := fun x => by
    rw [List.mem_filter, mem_sqs]
    simp
  have hab : abvT (dats es) q = ((sqs (dats es)).filter fun s => decide (q < s)).map (getT (dats es)) := rfl
  rw [hab]
  generalize ((sqs (dats es)).filter fun s => decide (q < s)) = A at hlA hAp hAm ⊢
  repeat'(first|refine kv' ?_|apply jJ|refine jE' ?_|refine jp' ?_|(apply jc;kernel_rfl)|refine kg' ?_|refine kG' ?_|refine kB' fun _=>?_|refine kA' fun _=>?_|refine kK' fun _=>?_|refine kU' ?_|((first|refine kR' ?_ ?_|refine kQ' ?_ ?_);all_goals(intro hc;try simp only[hcs]at hc;try(exfalso;first|contradiction|omega))))
  apply CW.loop [4, 5, 6, 7, 8, 10, 11, 12, 13, 14, 15, 16, 17, 18, 19, 20, 21, 22, 23, 24, 25, 26, 27, 28, 29, 30, 31, 32, 33, 34, 35, 36, 37, 38, 39, 40, 41, 42, 43, 44, 45, 46, 47, 48, 49, 50, 51, 52, 53, 54, 55, 56, 57, 58, 59, 60, 61, 62, 63, 64, 65, 66, 67, 68, 69, 70, 71, 72, 73, 74] (fun s : Ust => A = s.P ++ s.R ∧ s.o.length = s.P.length ∧ dats s.o = s.P.map (getT (dats es)) ∧ (∀ x, x ∈ s.R ↔ hasD (dats es) x = true ∧ s.last < x) ∧ s.R.Pairwise (· < ·)) (fun s => [(5, .slice s.a s.o.length s.c), (6, .int .i64 s.last)])
    (fun s => St w NoF [dS s.a s.c s.o, bunD s.o, vR b a0 c0 es top]) (fun s => s.R.length)
  · intro w' hw'
    refine ⟨⟨[], A, q, [], none, 0⟩, ⟨rfl, rfl, rfl, hAm, hAp⟩, ⟨rfl, rfl, trivial⟩, ?_⟩
    exact (hw'.bun_nil DaA.dep).nilsl 45 18
  rintro ⟨P, R, last, o, a, c⟩ g1 ⟨hA, hol, ho, hR, hRp⟩
  simp only at hA hol ho hR hRp ⊢
  have hoe : o.length ≤ es.length := by
    have h1 := congrArg List.length hA
    rw [List.length_append] at h1
    omega
  repeat'(first|refine kv' ?_|apply jJ|refine jE' ?_|refine jp' ?_|(apply jc;kernel_rfl)|refine kg' ?_|refine kG' ?_|refine kB' fun _=>?_|refine kA' fun _=>?_|refine kK' fun _=>?_|refine kU' ?_|((first|refine kR' ?_ ?_|refine kQ' ?_ ?_);all_goals(intro hc;try simp only[hcs]at hc;try(exfalso;first|contradiction|omega))))
  apply CW.loop [7, 8, 10, 11, 12, 13, 14, 15, 16, 17, 18, 19, 20, 21, 22, 23, 24, 25, 26, 27, 28, 29, 30, 31, 32, 33, 34, 35, 36, 37, 38, 39, 40, 41, 42, 43, 44, 45, 46, 47, 48, 49, 50, 51, 52] (fun s : Nat × Option Nat => s.1 ≤ es.length ∧ Least es last s.1 s.2) (fun s => [(7, .int .i64 (atV s.2)), (8, .int .i64 (s.1 : Int))])
    (fun s => St w NoF [dS a c o, bunD o, vR b a0 c0 es top]) (fun s => es.length - s.1)
  · exact fun w' hw' => ⟨(0, none), ⟨by omega, by simp [Least]⟩, ⟨rfl, rfl, trivial⟩, hw'⟩
  rintro ⟨i, j⟩ g2 ⟨hi, hL⟩
  simp only at hi hL ⊢
  by_cases hlt : i < es.length
  · obtain ⟨bg, og, rfl⟩ := v_form h hlt
    cases j with
    | none =>
      have e0 : atV none = -1 := rfl
      rw [e0]
      repeat'(first|(apply CW.reg_heldC)|refine kv' ?_|apply jJ|refine jE' ?_|refine jp' ?_|(apply jc;kernel_rfl)|refine kg' ?_|refine kG' ?_|refine kB' fun _=>?_|refine kA' fun _=>?_|refine kK' fun _=>?_|refine kU' ?_|(apply LR.ev; (· apply Ev.load; (· exact rfl); (· exact fun w' hw' => v_cell hw' (by (repeat (first | exact mH _ _ | apply mT))) rfl)); (· exact rfl))|((first|refine kR' ?_ ?_|refine kQ' ?_ ?_);all_goals(intro hc;try simp only[hcs]at hc;try(exfalso;first|contradiction|omega))))
      all_goals (
        apply DW.quiet [0, 1, 2, 3, 4, 5, 6, 7, 8, 9, 10, 11, 12, 13, 14, 15, 16, 17, 18, 19, 20, 21, 22, 23, 24, 25, 26, 27, 28, 29, 30, 31, 32]
        · decide +kernel
        · first | exact fun _ h => h | exact fun _ h => St.sub h (by repeat (first | exact List.Sublist.refl _ | apply List.Sublist.cons_cons | apply List.Sublist.cons))
        repeat'(first|refine yv' ?_|(apply QL.ev; (· exact rfl); (· first | (apply Ev.indexAddr; (· exact rfl); (· exact rfl); (· omega); (· omega)) | (apply Ev.load; (· exact rfl); (· exact fun w' hw' => v_cell hw' (by (repeat (first | exact mH _ _ | apply mT))) rfl)) | (apply Ev.load; (· exact rfl); (· exact fun w' hw' => v_row hw' (by (repeat (first | exact mH _ _ | apply mT))) hlt 2 rfl (by omega)))); (· exact rfl))|refine uv' ?_|refine un' ?_|(refine us' ?_ ?_;all_goals(intro hc;try simp only[hcs]at hc;try(exfalso;first|contradiction|omega)))|apply QL.nil)
        all_goals (show DW _ _ _ _ _ _ _ _))
      all_goals (first | (apply DW.done_thn; (· decide +kernel)) | (apply DW.done; (· decide +kernel)))
      repeat'(first|refine kv' ?_|apply jJ|refine jE' ?_|refine jp' ?_|(apply jc;kernel_rfl)|refine kg' ?_|refine kG' ?_|refine kB' fun _=>?_|refine kA' fun _=>?_|refine kK' fun _=>?_|refine kU' ?_|(apply addX;(iterate 2 exact rfl);(iterate 2(first|omega|(dsimp only;omega)));exact rfl)|((first|refine kR' ?_ ?_|refine kQ' ?_ ?_);all_goals(intro hc;try simp only[hcs]at hc;try(exfalso;first|contradiction|omega))))
      · refine At.again (i + 1, some i) ⟨by simp only; omega, least_new hlt hL (by omega) (fun k _ e => by cases e)⟩ ?_ ⟨rfl, rfl, trivial⟩ (fun w' hw' => hw'.sub (by (repeat (first | exact List.Sublist.refl _ | apply List.Sublist.cons_cons | apply List.Sublist.cons)))) (by simp only; omega)
        (repeat (first | exact Out.refl _ _ | exact Out.mix | (apply Out.upd; (· exact rfl)) | (apply Out.updL; (· exact rfl)) | (apply Out.mixs; (· exact rfl))))
      · refine At.again (i + 1, none) ⟨by simp only; omega, least_no hlt hL (by omega)⟩ ?_ ⟨rfl, rfl, trivial⟩ (fun w' hw' => hw'.sub (by (repeat (first | exact List.Sublist.refl _ | apply List.Sublist.cons_cons | apply List.Sublist.cons)))) (by simp only; omega)
        (repeat (first | exact Out.refl _ _ | exact Out.mix | (apply Out.upd; (· exact rfl)) | (apply Out.updL; (· exact rfl)) | (apply Out.mixs; (· exact rfl))))
    | some j =>
      have hLL := hL
      obtain ⟨hj, hji, _⟩ := hLL
      have e0 : atV (some j) = (j : Int) := rfl
      rw [e0]
      repeat'(first|(apply CW.reg_heldC)|refine kv' ?_|apply jJ|refine jE' ?_|refine jp' ?_|(apply jc;kernel_rfl)|refine kg' ?_|refine kG' ?_|refine kB' fun _=>?_|refine kA' fun _=>?_|refine kK' fun _=>?_|refine kU' ?_|(apply LR.ev; (· apply Ev.load; (· exact rfl); (· exact fun w' hw' => v_cell hw' (by (repeat (first | exact mH _ _ | apply mT))) rfl)); (· exact rfl))|((first|refine kR' ?_ ?_|refine kQ' ?_ ?_);all_goals(intro hc;try simp only[hcs]at hc;try(exfalso;first|contradiction|omega))))
      all_goals (
        apply DW.quiet [0, 1, 2, 3, 4, 5, 6, 7, 8, 9, 10, 11, 12, 13, 14, 15, 16, 17, 18, 19, 20, 21, 22, 23, 24, 25, 26, 27, 28, 29, 30, 31, 32]
        · decide +kernel
        · first | exact fun _ h => h | exact fun _ h => St.sub h (by repeat (first | exact List.Sublist.refl _ | apply List.Sublist.cons_cons | apply List.Sublist.cons))
        repeat'(first|refine yv' ?_|(apply QL.ev; (· exact rfl); (· first | (apply Ev.indexAddr; (· exact rfl); (· exact rfl); (· omega); (· omega)) | (apply Ev.load; (· exact rfl); (· exact fun w' hw' => v_cell hw' (by (repeat (first | exact mH _ _ | apply mT))) rfl)) | (apply Ev.load; (· exact rfl); (· exact fun w' hw' => v_row hw' (by (repeat (first | exact mH _ _ | apply mT))) hlt 2 rfl (by omega))) | (apply Ev.load; (· exact rfl); (· exact fun w' hw' => v_row hw' (by (repeat (first | exact mH _ _ | apply mT))) hj 2 rfl (by omega)))); (· exact rfl))|(apply QL.evg; (· exact rfl); (· exact rfl); (· exact rfl); (· first | (apply Ev.indexAddr; (· exact rfl); (· exact rfl); (· omega); (· omega)) | (apply Ev.load; (· exact rfl); (· exact fun w' hw' => v_cell hw' (by (repeat (first | exact mH _ _ | apply mT))) rfl)) | (apply Ev.load; (· exact rfl); (· exact fun w' hw' => v_row hw' (by (repeat (first | exact mH _ _ | apply mT))) hlt 2 rfl (by omega))) | (apply Ev.load; (· exact rfl); (· exact fun w' hw' => v_row hw' (by (repeat (first | exact mH _ _ | apply mT))) hj 2 rfl (by omega)))); (· exact rfl))|refine uv' ?_|refine un' ?_|(refine us' ?_ ?_;all_goals(intro hc;try simp only[hcs]at hc;try(exfalso;first|contradiction|omega)))|apply QL.nil)
        all_goals (show DW _ _ _ _ _ _ _ _))
      all_goals (first | (apply DW.done_thn; (· decide +kernel)) | (apply DW.done; (· decide +kernel)))
      repeat'(first|refine kv' ?_|apply jJ|refine jE' ?_|refine jp' ?_|(apply jc;kernel_rfl)|refine kg' ?_|refine kG' ?_|refine kB' fun _=>?_|refine kA' fun _=>?_|refine kK' fun _=>?_|refine kU' ?_|(apply addX;(iterate 2 exact rfl);(iterate 2(first|omega|(dsimp only;omega)));exact rfl)|((first|refine kR' ?_ ?_|refine kQ' ?_ ?_);all_goals(intro hc;try simp only[hcs]at hc;try(exfalso;first|contradiction|omega))))
      · refine At.again (i + 1, some i) ⟨by simp only; omega, least_new hlt hL (by omega) (fun k _ e => by cases e; omega)⟩ ?_ ⟨rfl, rfl, trivial⟩ (fun w' hw' => hw'.sub (by (repeat (first | exact List.Sublist.refl _ | apply List.Sublist.cons_cons | apply List.Sublist.cons)))) (by simp only; omega)
        (repeat (first | exact Out.refl _ _ | exact Out.mix | (apply Out.upd; (· exact rfl)) | (apply Out.updL; (· exact rfl)) | (apply Out.mixs; (· exact rfl))))
      · refine At.again (i + 1, some j) ⟨by simp only; omega, least_keep hlt hj hL (by omega)⟩ ?_ ⟨rfl, rfl, trivial⟩ (fun w' hw' => hw'.sub (by (repeat (first | exact List.Sublist.refl _ | apply List.Sublist.cons_cons | apply List.Sublist.cons)))) (by simp only; omega)
        (repeat (first | exact Out.refl _ _ | exact Out.mix | (apply Out.upd; (· exact rfl)) | (apply Out.updL; (· exact rfl)) | (apply Out.mixs; (· exact rfl))))
      · refine At.again (i + 1, some j) ⟨by simp only; omega, least_no hlt hL (by omega)⟩ ?_ ⟨rfl, rfl, trivial⟩ (fun w' hw' => hw'.sub (by (repeat (first | exact List.Sublist.refl _ | apply List.Sublist.cons_cons | apply List.Sublist.cons)))) (by simp only; omega)
        (repeat (first | exact Out.refl _ _ | exact Out.mix | (apply Out.upd; (· exact rfl)) | (apply Out.updL; (· exact rfl)) | (apply Out.mixs; (· exact rfl))))
  · have hie : i = es.length := by omega
    subst hie
    rcases least_end hR hRp hL with ⟨rfl, rfl⟩ | ⟨k, hk, rfl, R', rfl⟩
    · have e0 : atV none = -1 := rfl
      rw [e0]
      repeat'(first|refine kv' ?_|apply jJ|refine jE' ?_|refine jp' ?_|(apply jc;kernel_rfl)|refine kg' ?_|refine kG' ?_|refine kB' fun _=>?_|refine kA' fun _=>?_|refine kK' fun _=>?_|refine kU' ?_|(apply LR.ev; (· apply Ev.load; (· exact rfl); (· exact fun w' hw' => v_cell hw' (by (repeat (first | exact mH _ _ | apply mT))) rfl)); (· exact rfl))|((first|refine kR' ?_ ?_|refine kQ' ?_ ?_);all_goals(intro hc;try simp only[hcs]at hc;try(exfalso;first|contradiction|omega))))
      (apply ret1; (· exact rfl); intro w' hS)
      rw [List.append_nil] at hA
      rw [hA]
      exact ⟨a, c, o, rfl, ho, St.new1 (R := [vR b a0 c0 es top]) (St.join hS rfl rfl) rfl⟩
    · have e0 : atV (some k) = (k : Int) := rfl
      rw [e0]
      obtain ⟨bg, og, rfl⟩ := v_form h hk
      have hmem : es[k] ∈ es := List.getElem_mem hk
      have hlen : es[k].d.msg.body.length ≤ 140737488351232 := hD.len _ (List.mem_map_of_mem hmem)
      have hkd : getT (dats es) es[k].d.seq = es[k].d := getT_of hD.nodup (List.mem_map_of_mem hmem)
      repeat'(first|refine kv' ?_|apply jJ|refine jE' ?_|refine jp' ?_|(apply jc;kernel_rfl)|refine kg' ?_|refine kG' ?_|refine kB' fun _=>?_|refine kA' fun _=>?_|refine kK' fun _=>?_|refine kU' ?_|(apply idxX;(iterate 2 exact rfl);(iterate 2(first|omega|(dsimp only;omega)));exact rfl)|(apply LR.ev; (· first | (apply Ev.load; (· exact rfl); (· exact fun w' hw' => v_cell hw' (by (repeat (first | exact mH _ _ | apply mT))) rfl)) | (apply Ev.load; (· exact rfl); (· exact fun w' hw' => v_row hw' (by (repeat (first | exact mH _ _ | apply mT))) hk 2 rfl (by omega))) | (apply Ev.load_agg_at (cs := es[k].row); (· exact rfl); (· exact rfl); (· intro w' hw'; exact rd_row DaA.row_len (vO_r (v_out hw' (by (repeat (first | exact mH _ _ | apply mT))))) hk (by omega)))); (· exact rfl))|(apply LR.call; (· exact rfl); (intro w1 h1; refine (t28 es[k].d es[k].a es[k].c w1 (vO_b (v_out h1 (by (repeat (first | exact mH _ _ | apply mT)))) hmem) (vO_z (v_out h1 (by (repeat (first | exact mH _ _ | apply mT)))) hmem) (by omega)).mono ?_; rintro v w2 ⟨a2, c2, rfl, hn⟩; refine LR.back (h1.newSl hn) ?_; clear hn h1))|(apply LR.append (xs := o.flatMap DaA.row) (news := DaA.row ⟨es[k].d, a2, c2⟩) (m := 1); (· exact rfl); (· exact rfl); (· intro a' c'; (repeat (first | exact sH _ _ _ | apply sT))); (· exact fun w' hw' => hw'.rd_of_blk (mH _ _)); (· exact fun hx => by cases hx); (· exact rfl); (· simp [DaA.row, Dat.cells, Msg.cells, Value.oneCell']); (· omega); (· unfold maxLen; omega); (· exact rfl); (intro a3 c3))|((first|refine kR' ?_ ?_|refine kQ' ?_ ?_);all_goals(intro hc;try simp only[hcs]at hc;try(exfalso;first|contradiction|omega))))
      refine At.again (⟨P ++ [es[k].d.seq], R', es[k].d.seq, o ++ [⟨es[k].d, a2, c2⟩], a3, c3⟩ : Ust) ⟨by simp [hA], by simp [hol], by rw [dats_snoc, ho, List.map_append, List.map_cons, List.map_nil, hkd], rest_next hR hRp, (List.pairwise_cons.1 hRp).2⟩ ?_ ⟨?_, rfl, trivial⟩ ?_ (by simp)
      · (repeat (first | exact Out.refl _ _ | exact Out.mix | (apply Out.upd; (· exact rfl)) | (apply Out.updL; (· exact rfl)) | (apply Out.mixs; (· exact rfl))))
      · show Value.slice a3 (o.length + 1) c3 = .slice a3 (o ++ [(⟨es[k].d, a2, c2⟩ : DaA)]).length c3
        simp
      · intro w' hw'
        exact (d_push (x := ⟨es[k].d, a2, c2⟩) hw'.tail1).sub (by (repeat (first | exact List.Sublist.refl _ | apply List.Sublist.cons_cons | apply List.Sublist.cons)))
end Go.Proofs.YtgblmkpfkcibiaaGreat

namespace Go.Proofs.YtgblmkpfkcibiaaGreat
open Go.Hb
attribute [local irreducible] LR CW At Ev thn blk finK noG again CallsTo DW QL dnext TW DP
set_option linter.unusedSimpArgs false
set_option linter.unusedVariables false
set_option maxRecDepth 100000

abbrev rB2 (b : Nat) (a : Option Addr) (c n : Nat) : Asrt := .own b (.cells [Value.slice a n c].toArray 63 (0, 0))
def hO (b : Nat) (a : Option Addr) (c : Nat) (L : List MsA) : Asrt := both (rB2 b a c L.length) (gsO a c L)
theorem hO_dep (b : Nat) (a : Option Addr) (c : Nat) (L : List MsA) : (hO b a c L).dep := both_dep (Asrt.dep_own _ _) (gsO_dep a c L)
section
variable {w0 w : World} {F : Nat → Prop} {R : List Asrt} {b : Nat} {a : Option Addr} {c : Nat} {L : List MsA}
theorem hO_open (h : St w0 F (hO b a c L :: R) w) : St w0 F (rB2 b a c L.length :: odM a c L :: bunM L :: R) w := by
  have h1 := h.part (Asrt.dep_own _ _) (gsO_dep a c L)
  have h2 := gsO_open h1.swap
  exact h2.perm (((List.Perm.swap (rB2 b a c L.length) (bunM L) R).cons (odM a c L)).trans (List.Perm.swap (rB2 b a c L.length) (odM a c L) (bunM L :: R)))
theorem hO_shut (h : St w0 F (rB2 b a c L.length :: odM a c L :: bunM L :: R) w) : St w0 F (hO b a c L :: R) w := by
  have h1 : St w0 F (odM a c L :: bunM L :: rB2 b a c L.length :: R) w := h.perm ((List.Perm.swap (odM a c L) (rB2 b a c L.length) (bunM L :: R)).trans ((List.Perm.swap (bunM L) (rB2 b a c L.length) R).cons (odM a c L)))
  exact (gsO_shut h1).swap.join rfl rfl
end
theorem hO_rd {b : Nat} {a : Option Addr} {c : Nat} {L : List MsA} {w : World} (h : (hO b a c L).holds w) : Rd w (some ⟨b, 0, none⟩) [.slice a L.length c] := by
  exact fun j v hj => ⟨_, rfl, by rw [addr_add, cell_own (show w.heap[b]? = some (.cells [Value.slice a L.length c].toArray 63 (0, 0)) from h.1)]; simpa using hj⟩
theorem h9 (b : Nat) (a : Option Addr) (c n : Nat) (w : World) (h : Rd w (some ⟨b, 0, none⟩) [.slice a n c]) : CallsTo Tryz.prog 9 [.pointer (some ⟨b, 0, none⟩)] w fun v w' => v = .int .i64 (n : Int) ∧ Grew w w' := by
  refine go_in (n := 8) (St.rd1 h) Tryz.func9 rfl rfl ?_
  repeat'(first|refine kv' ?_|apply jJ|refine jE' ?_|refine jp' ?_|(apply jc;kernel_rfl)|refine kg' ?_|refine kG' ?_|refine kB' fun _=>?_|refine kA' fun _=>?_|refine kK' fun _=>?_|refine kU' ?_|((first|refine kR' ?_ ?_|refine kQ' ?_ ?_);all_goals(intro hc;try simp only[hcs]at hc;try(exfalso;first|contradiction|omega))))
  (apply ret1; (· exact rfl); intro w' hS)
  exact ⟨rfl, hS.toKeep⟩
set_option maxHeartbeats 4000000 in
theorem h7 (bv' : Nat) (a0 : Option Addr) (c0 : Nat) (es : List DaA) (top low : Int) (w : World) (h : (vO bv' a0 c0 es top).holds w) (hD : WOk (dats es)) (hl : es.length ≤ 100000) (hB : BytD (dats es)) :
    CallsTo Tryz.prog 7 [.pointer (some ⟨bv', 0, none⟩), .int .i64 low] w fun v w' => ∃ b a c ms, v = .tuple [.pointer (some ⟨b, 0, none⟩), .int .i64 0].toArray ∧ ms.map MsA.m = sendL (abvT (dats es) low) ∧ New1 (hO b a c ms) w w' := by
  refine go_in (n := 43) (vO_in h) Tryz.func7 rfl rfl ?_
  repeat'(first|(apply kB;(iterate 2 exact rfl);intro b)|refine kv' ?_|apply jJ|refine jE' ?_|refine jp' ?_|(apply jc;kernel_rfl)|refine kg' ?_|refine kG' ?_|refine kB' fun _=>?_|refine kA' fun _=>?_|refine kK' fun _=>?_|refine kU' ?_|((first|refine kR' ?_ ?_|refine kQ' ?_ ?_);all_goals(intro hc;try simp only[hcs]at hc;try(exfalso;first|contradiction|omega))))
  apply LR.call
  · exact rfl
  intro w1 h1
  refine CallsTo.mono (show CallsTo Tryz.prog 24 [.pointer (some ⟨bv', 0, none⟩), .int .i64 low] w1 _ from t42 bv' a0 c0 es top low w1 (h1.holds (vR bv' a0 c0 es top) (by (repeat (first | exact mH _ _ | apply mT)))) hD hl) ?_
  rintro v w2 ⟨a1, c1, o, rfl, ho, hn⟩
  have hr1 : Rd w2 a1 (o.flatMap DaA.row) := ownsRow_rd hn.holds.1
  refine LR.back ((h1.got hn (dO_dep _ _ _)).part (osl.dep _ _ _ _ _) (bun_dep DaA.dep o)) ?_
  clear hn h1
  repeat'(first|refine kv' ?_|apply jJ|refine jE' ?_|refine jp' ?_|(apply jc;kernel_rfl)|refine kg' ?_|refine kG' ?_|refine kB' fun _=>?_|refine kA' fun _=>?_|refine kK' fun _=>?_|refine kU' ?_|((first|refine kR' ?_ ?_|refine kQ' ?_ ?_);all_goals(intro hc;try simp only[hcs]at hc;try(exfalso;first|contradiction|omega))))
  have hBo : BytD (dats o) := fun d hd => by rw [ho] at hd; exact hB d (abv_mem hd)
  have hLo : ∀ x ∈ o, x.d.msg.body.length ≤ 140737488351232 := fun x hx => hD.len _ (abv_mem (q := low) (by rw [← ho]; exact List.mem_map_of_mem hx))
  have hlo : o.length ≤ 100000 := by
    have h1 : (dats o).length ≤ (dats es).length := by rw [ho]; exact Nat.le_trans (abvS_len _ _ _) (by rw [sqs_len]; exact Nat.le_refl _)
    simp only [dats, List.length_map] at h1
    omega
  rw [← ho]
  apply CW.loop [8, 9, 10, 16, 17, 18, 19, 20, 21, 22, 23, 24, 25, 26, 27, 28, 29, 30, 31, 32, 33, 34, 35, 36, 37, 38, 39, 40, 41] (fun s : Rgs => s.k ≤ o.length ∧ s.ms.length ≤ s.k ∧ s.ms.map MsA.m = sendL ((dats o).take s.k)) (fun s => [(8, .int .i64 (s.k : Int))])
    (fun s => St w NoF [rB2 b s.a s.c s.ms.length, odM s.a s.c s.ms, bunM s.ms, dS a1 c1 o, bunD o, vR bv' a0 c0 es top]) (fun s => o.length - s.k)
  · intro w' hw'
    refine ⟨⟨0, none, 0, []⟩, ⟨by simp, by simp, rfl⟩, ⟨rfl, trivial⟩, ?_⟩
    have h1 := ((hw'.bun_nil MsA.dep).nilsl 43 13).osl_odl (sH _ _ _)
    exact front (L' := [rB2 b none 0 0, odM none 0 [], bunM [], dS a1 c1 o, bunD o, vR bv' a0 c0 es top]) h1 4 rfl rfl
  rintro ⟨k, a, c, ms⟩ g' ⟨hk, hmk, hms⟩
  simp only at hk hmk hms ⊢
  by_cases hlt : k < o.length
  · obtain ⟨x, hx⟩ : ∃ x, x = o[k] := ⟨_, rfl⟩
    have hxo : x ∈ o := by rw [hx]; exact List.getElem_mem hlt
    have hxl := hLo x hxo
    have hxb : Byt x.d.msg.body := hBo x.d (List.mem_map_of_mem hxo)
    have hsn := sendL_snoc ((dats o).take k) x.d
    have htk : (dats o).take (k + 1) = (dats o).take k ++ [x.d] := by
      rw [List.take_succ_eq_append_getElem (by simpa [dats] using hlt)]
      simp [dats, hx]
    rw [← htk, ← hms] at hsn
    have hof : (o.flatMap DaA.row) ≠ [] := rows_ne DaA.row_len (by omega) hlt
    obtain ⟨ba, oa, rfl⟩ := hr1.form hof
    repeat'(first|(apply kA; (· exact rfl); intro b9)|refine kv' ?_|apply jJ|refine jE' ?_|refine jp' ?_|refine kg' ?_|refine kG' ?_|refine kB' fun _=>?_|refine kA' fun _=>?_|refine kK' fun _=>?_|refine kU' ?_|(apply idxX;(iterate 2 exact rfl);(iterate 2(first|omega|(dsimp only;omega)));exact rfl)|(apply addX;(iterate 2 exact rfl);(iterate 2(first|omega|(dsimp only;omega)));exact rfl)|(apply LR.ev; (· apply Ev.load_agg_at (cs := x.row); (· exact rfl); (· exact rfl); (· intro w' hw'; rw [hx]; exact rd_row DaA.row_len (ownsRow_rd (hw'.holds (dS (some ⟨ba, oa, none⟩) c1 o) (by (repeat (first | exact mH _ _ | apply mT))))) hlt (by simp))); (· exact rfl))|(apply LR.call; (· exact rfl); (intro w1 h1; refine CallsTo.mono (show CallsTo Tryz.prog 25 [x.d.val x.a x.c] w1 _ from c82 x.d x.a x.c w1 (ownsRow_rd (h1.holds (bunD o) (by (repeat (first | exact mH _ _ | apply mT))) |>.1 x hxo)) (body_nz (h1.holds (bunD o) (by (repeat (first | exact mH _ _ | apply mT))) |>.1 x hxo)) (by omega) hxb) ?_; rintro v w2 ⟨a2, c2, rfl, hn⟩; refine LR.back (h1.newSl hn) ?_; clear hn h1))|((first|refine kR' ?_ ?_|refine kQ' ?_ ?_);all_goals(intro hc;try simp only[hcs]at hc;try(exfalso;first|contradiction|omega))))
    · apply CW.reg_sink 10 (St w NoF [.own b9 (.cells ((old x.d).1.cells a2 c2).toArray 43 (0, 0)), rB2 b a c ms.length])
      · exact rfl
      · decide +kernel
      all_goals (
        apply DW.quiet [0, 1, 2, 3, 4, 5]
        · decide +kernel
        · first | exact fun _ h => h | exact fun _ h => St.sub h (by repeat (first | exact List.Sublist.refl _ | apply List.Sublist.cons_cons | apply List.Sublist.cons))
        repeat'(first|refine yv' ?_|refine uv' ?_|refine un' ?_|(refine us' ?_ ?_;all_goals(intro hc;try simp only[hcs]at hc;try(exfalso;first|contradiction|omega)))|apply QL.nil)
        all_goals (show DW _ _ _ _ _ _ _ _))
      all_goals (
        apply DW.loud 6
        · exact rfl
        · decide +kernel
        repeat'(first|refine kg' ?_|refine kG' ?_|apply kM|refine kv' ?_|refine kK' fun _=>?_|refine kU' ?_|refine kB' fun _=>?_|refine kA' fun _=>?_|(apply LR.append_odl (a := a) (k := ms.length) (c := c) (xs := ms.flatMap MsA.row) (news := MsA.row ⟨(old x.d).1, a2, c2⟩) (m := 1); (· exact rfl); (· exact rfl); (· intro a' c'; (repeat (first | exact sH _ _ _ | apply sT))); (· intro w' hw'; exact hw'.rd_of_blk (mH _ _)); (· intro hx; cases hx); (· exact rfl); (· simp [MsA.row, Msg.cells, Value.oneCell']); (· omega); (· unfold maxLen; omega); (· exact rfl); (intro ay cy; apply kM)))
        all_goals (refine At.stage_same (fun _ h => St.sub h (by repeat (first | exact List.Sublist.refl _ | apply List.Sublist.cons_cons | apply List.Sublist.cons))) ?_))
      all_goals (
        apply DW.loud 7
        · exact rfl
        · decide +kernel
        repeat'(first|refine kg' ?_|refine kG' ?_|apply kM|refine kv' ?_|refine kK' fun _=>?_|refine kU' ?_|refine kB' fun _=>?_|refine kA' fun _=>?_|(apply LR.append_odl (a := a) (k := ms.length) (c := c) (xs := ms.flatMap MsA.row) (news := MsA.row ⟨(old x.d).1, a2, c2⟩) (m := 1); (· exact rfl); (· exact rfl); (· intro a' c'; (repeat (first | exact sH _ _ _ | apply sT))); (· intro w' hw'; exact hw'.rd_of_blk (mH _ _)); (· intro hx; cases hx); (· exact rfl); (· simp [MsA.row, Msg.cells, Value.oneCell']); (· omega); (· unfold maxLen; omega); (· exact rfl); (intro ay cy; apply kM)))
        all_goals (refine At.stage_same (fun _ h => St.sub h (by repeat (first | exact List.Sublist.refl _ | apply List.Sublist.cons_cons | apply List.Sublist.cons))) ?_))
      all_goals (
        apply DW.quiet [8, 9]
        · decide +kernel
        · first | exact fun _ h => h | exact fun _ h => St.sub h (by repeat (first | exact List.Sublist.refl _ | apply List.Sublist.cons_cons | apply List.Sublist.cons))
        repeat'(first|refine yv' ?_|refine uv' ?_|refine un' ?_|(refine us' ?_ ?_;all_goals(intro hc;try simp only[hcs]at hc;try(exfalso;first|contradiction|omega)))|apply QL.nil)
        all_goals (show DW _ _ _ _ _ _ _ _))
      all_goals (apply DW.done; (· decide +kernel))
      all_goals apply At.sink
      repeat'(first|refine kv' ?_|apply jJ|refine jE' ?_|refine jp' ?_|(apply jc;kernel_rfl)|refine kg' ?_|refine kG' ?_|refine kB' fun _=>?_|refine kA' fun _=>?_|refine kK' fun _=>?_|refine kU' ?_|(apply addX;(iterate 2 exact rfl);(iterate 2(first|omega|(dsimp only;omega)));exact rfl)|((first|refine kR' ?_ ?_|refine kQ' ?_ ?_);all_goals(intro hc;try simp only[hcs]at hc;try(exfalso;first|contradiction|omega))))
      rw [if_pos (by assumption)] at hsn
      refine At.again (⟨k + 1, ay, cy, ms ++ [⟨(old x.d).1, a2, c2⟩]⟩ : Rgs) ⟨by simp only; omega, by simp; omega, by rw [hsn, List.map_append]; rfl⟩ ?_ ⟨rfl, trivial⟩ ?_ (by simp only; omega)
      · (repeat (first | exact Out.refl _ _ | exact Out.mix | (apply Out.upd; (· exact rfl)) | (apply Out.updL; (· exact rfl)) | (apply Out.mixs; (· exact rfl))))
      · intro w' hw'
        obtain ⟨y, hy⟩ : ∃ y : MsA, y = ⟨(old x.d).1, a2, c2⟩ := ⟨_, rfl⟩
        have h1 : St w NoF [y.body, rB2 b ay cy (ms.length + 1), odl (.slice ay (ms.length + 1) cy) 43 13 (ms.length + 1) (ms.flatMap MsA.row ++ y.row), bunM ms, dS (some ⟨ba, oa, none⟩) c1 o, bunD o, vR bv' a0 c0 es top] w' := by
          rw [hy]; exact hw'.sub (by (repeat (first | exact List.Sublist.refl _ | apply List.Sublist.cons_cons | apply List.Sublist.cons)))
        have h2 : St w NoF [bunM ms, y.body, rB2 b ay cy (ms.length + 1), odl (.slice ay (ms.length + 1) cy) 43 13 (ms.length + 1) (ms.flatMap MsA.row ++ y.row), dS (some ⟨ba, oa, none⟩) c1 o, bunD o, vR bv' a0 c0 es top] w' := front h1 3 rfl rfl
        have h3 : St w NoF [bunM (ms ++ [y]), rB2 b ay cy (ms.length + 1), odl (.slice ay (ms.length + 1) cy) 43 13 (ms.length + 1) (ms.flatMap MsA.row ++ y.row), dS (some ⟨ba, oa, none⟩) c1 o, bunD o, vR bv' a0 c0 es top] w' := h2.swap.bun_snoc MsA.dep MsA.ex
        have h4 : St w NoF [odl (.slice ay (ms.length + 1) cy) 43 13 (ms.length + 1) (ms.flatMap MsA.row ++ y.row), bunM (ms ++ [y]), rB2 b ay cy (ms.length + 1), dS (some ⟨ba, oa, none⟩) c1 o, bunD o, vR bv' a0 c0 es top] w' := front h3 2 rfl rfl
        have h5 : St w NoF [rB2 b ay cy (ms.length + 1), odl (.slice ay (ms.length + 1) cy) 43 13 (ms.length + 1) (ms.flatMap MsA.row ++ y.row), bunM (ms ++ [y]), dS (some ⟨ba, oa, none⟩) c1 o, bunD o, vR bv' a0 c0 es top] w' := front h4 2 rfl rfl
        rw [odM_snoc, show rB2 b ay cy (ms.length + 1) = rB2 b ay cy (ms ++ [y]).length by simp] at h5
        rw [← hy]
        exact h5
    · rw [if_neg (by assumption), List.append_nil] at hsn
      refine At.again (⟨k + 1, a, c, ms⟩ : Rgs) ⟨by simp only; omega, by simp only; omega, hsn.symm⟩ ?_ ⟨rfl, trivial⟩ (fun w' hw' => hw'.sub (by (repeat (first | exact List.Sublist.refl _ | apply List.Sublist.cons_cons | apply List.Sublist.cons)))) (by simp only; omega)
      (repeat (first | exact Out.refl _ _ | exact Out.mix | (apply Out.upd; (· exact rfl)) | (apply Out.updL; (· exact rfl)) | (apply Out.mixs; (· exact rfl))))
  · have hke : k = o.length := by omega
    subst hke
    rw [List.take_of_length_le (by simp [dats])] at hms
    repeat'(first|refine kv' ?_|apply jJ|refine jE' ?_|refine jp' ?_|(apply jc;kernel_rfl)|refine kg' ?_|refine kG' ?_|refine kB' fun _=>?_|refine kA' fun _=>?_|refine kK' fun _=>?_|refine kU' ?_|((first|refine kR' ?_ ?_|refine kQ' ?_ ?_);all_goals(intro hc;try simp only[hcs]at hc;try(exfalso;first|contradiction|omega))))
    (apply ret2; (· exact rfl); intro w' hS)
    refine ⟨b, a, c, ms, rfl, hms, St.new1 (hO_shut hS) rfl⟩
theorem h12e (b : Nat) (a : Option Addr) (c : Nat) (w : World) (h : Rd w (some ⟨b, 0, none⟩) [.slice a 0 c]) : CallsTo Tryz.prog 12 [.pointer (some ⟨b, 0, none⟩)] w fun v w' => v = .tuple [zeroMsg.val none 0, .int .i64 8].toArray ∧ Grew w w' := by
  refine go_in (n := 28) (St.rd1 h) Tryz.func12 rfl rfl ?_
  repeat'(first|refine kv' ?_|apply jJ|refine jE' ?_|refine jp' ?_|(apply jc;kernel_rfl)|refine kg' ?_|refine kG' ?_|refine kB' fun _=>?_|refine kA' fun _=>?_|refine kK' fun _=>?_|refine kU' ?_|((first|refine kR' ?_ ?_|refine kQ' ?_ ?_);all_goals(intro hc;try simp only[hcs]at hc;try(exfalso;first|contradiction|omega))))
  (apply ret2c; (· exact rfl); (· exact inferInstance); (· exact rfl); (· (repeat (first | exact List.Mem.head _ | apply List.Mem.tail))); (· exact rfl); intro w' hS)
  exact ⟨rfl, hS.toKeep⟩
set_option maxHeartbeats 1000000 in
theorem h12 (b : Nat) (a : Option Addr) (c : Nat) (x : MsA) (L : List MsA) (w : World) (h : (hO b a c (x :: L)).holds w) (hm : x.m.body.length ≤ 140737488355328) :
    CallsTo Tryz.prog 12 [.pointer (some ⟨b, 0, none⟩)] w fun v w' => ∃ a1 c1 a2 c2, v = .tuple [x.m.val a2 c2, .int .i64 0].toArray ∧ St w (hO b a c (x :: L)).foot [hO b a1 c1 L, MsA.body ⟨x.m, a2, c2⟩] w' := by
  have hS1 := hO_open (St.one h (both_live h) (hO_dep b a c (x :: L)))
  generalize hF : (hO b a c (x :: L)).foot = F at *
  obtain ⟨by_, oy, rfl⟩ := (ownsAt_rd hS1.g1).form (by simp [MsA.row, Msg.cells])
  have hl : (x :: L).length = L.length + 1 := rfl
  refine go_in (n := 28) hS1 Tryz.func12 rfl rfl ?_
  repeat'(first|refine kv' ?_|apply jJ|refine jE' ?_|refine jp' ?_|(apply jc;kernel_rfl)|refine kg' ?_|refine kG' ?_|refine kB' fun _=>?_|refine kA' fun _=>?_|refine kK' fun _=>?_|refine kU' ?_|(apply idxX;(iterate 2 exact rfl);(iterate 2(first|omega|(dsimp only;omega)));exact rfl)|(apply LR.ev; (· apply Ev.slice_lo; (· exact rfl); (· exact rfl); (· first | omega | (dsimp only; omega)); (· first | omega | (dsimp only; omega))); (· exact rfl))|(apply LR.ev; (· apply Ev.load_agg_at (cs := x.row); (· exact rfl); (· exact rfl); (· intro w' hw'; exact rd_row (l := x :: L) (i := 0) MsA.row_len (ownsAt_rd (hw'.holds (odM (some ⟨by_, oy, none⟩) c (x :: L)) (by (repeat (first | exact mH _ _ | apply mT))))) (by simp) (by simp))); (· exact rfl))|((first|refine kR' ?_ ?_|refine kQ' ?_ ?_);all_goals(intro hc;try simp only[hcs]at hc;try(exfalso;first|contradiction|omega))))
  apply LR.call
  · exact rfl
  intro w1 h1
  have hb1 : (x.body).holds w1 := (h1.holds (bunM (x :: L)) (by (repeat (first | exact mH _ _ | apply mT)))).1 x List.mem_cons_self
  refine CallsTo.mono (show CallsTo Tryz.prog 31 [x.m.val x.a x.c] w1 _ from c14 x.m x.a x.c w1 (ownsRow_rd hb1) (body_nzM hb1) hm) ?_
  rintro v w2 ⟨a2, c2, rfl, hn⟩
  refine LR.back (h1.newSl hn) ?_
  clear hn h1
  repeat'(first|refine kv' ?_|apply jJ|refine jE' ?_|refine jp' ?_|(apply jc;kernel_rfl)|refine kg' ?_|refine kG' ?_|refine kB' fun _=>?_|refine kA' fun _=>?_|refine kK' fun _=>?_|refine kU' ?_|(apply idxX;(iterate 2 exact rfl);(iterate 2(first|omega|(dsimp only;omega)));exact rfl)|(apply LR.ev; (· apply Ev.slice_lo; (· exact rfl); (· exact rfl); (· first | omega | (dsimp only; omega)); (· first | omega | (dsimp only; omega))); (· exact rfl))|((first|refine kR' ?_ ?_|refine kQ' ?_ ?_);all_goals(intro hc;try simp only[hcs]at hc;try(exfalso;first|contradiction|omega))))
  (apply ret2c; (· exact rfl); (· exact inferInstance); (· exact rfl); (· (repeat (first | exact List.Mem.head _ | apply List.Mem.tail))); (· exact rfl); intro w' hS)
  refine ⟨subA (some ⟨by_, oy, none⟩) c 1 13, c - 1, a2, c2, rfl, ?_⟩
  obtain ⟨y, hy⟩ : ∃ y : MsA, y = ⟨x.m, a2, c2⟩ := ⟨_, rfl⟩
  have h1 : St w F [y.body, rB2 b (subA (some ⟨by_, oy, none⟩) c 1 13) (c - 1) L.length, odM (some ⟨by_, oy, none⟩) c (x :: L), bunM (x :: L)] w' := by
    rw [hy]; exact hS.sub (by (repeat (first | exact List.Sublist.refl _ | apply List.Sublist.cons_cons | apply List.Sublist.cons)))
  have h2 := h1.odl_drop (l := 1) (E := 43) (sz := 13) (xs := (x :: L).flatMap MsA.row) (a := some ⟨by_, oy, none⟩) (c := c) (k := (x :: L).length) (by (repeat (first | exact sH _ _ _ | apply sT))) (by simp)
  have h3 : St w F [y.body, rB2 b (subA (some ⟨by_, oy, none⟩) c 1 13) (c - 1) L.length, odM (subA (some ⟨by_, oy, none⟩) c 1 13) (c - 1) L, bunM (x :: L)] w' := h2
  have h4 : St w F [bunM (x :: L), y.body, rB2 b (subA (some ⟨by_, oy, none⟩) c 1 13) (c - 1) L.length, odM (subA (some ⟨by_, oy, none⟩) c 1 13) (c - 1) L] w' := front h3 3 rfl rfl
  have h5 := (St.bun_head MsA.dep h4).tail1
  have h6 : St w F [odM (subA (some ⟨by_, oy, none⟩) c 1 13) (c - 1) L, bunM L, y.body, rB2 b (subA (some ⟨by_, oy, none⟩) c 1 13) (c - 1) L.length] w' := front h5 3 rfl rfl
  have h7 : St w F [rB2 b (subA (some ⟨by_, oy, none⟩) c 1 13) (c - 1) L.length, odM (subA (some ⟨by_, oy, none⟩) c 1 13) (c - 1) L, bunM L, y.body] w' := front h6 3 rfl rfl
  rw [← hy]
  exact hO_shut h7
end Go.Proofs.YtgblmkpfkcibiaaGreat

namespace Go.Proofs.YtgblmkpfkcibiaaGreat
open Go.Hb
theorem CW_fact {P : Program} {n : Nat} {c : Code} {Q : Post} {f : Frm} {C : World → Prop} {φ : Prop} (h : ∀ w, C w → φ) (k : φ → CW P n c Q f C) : CW P n c Q f C := fun w hw => k (h w hw) w hw
attribute [local irreducible] LR CW At Ev thn blk finK noG again CallsTo DW QL dnext TW DP
set_option linter.unusedSimpArgs false
set_option linter.unusedVariables false
set_option maxRecDepth 100000

structure DaB (w : World) (x : DaA) : Prop where
  hr : Rd w x.a (bv x.d.msg.body)
  hz : x.a = none → x.c = 0
  hm : x.d.msg.body.length ≤ 140737488351232
  hb : Byt x.d.msg.body
/-- A window of the first i data. -/
structure Wk (i : Nat) (es : List DaA) (ar : Int) : Prop where
  ok : WOk (dats es)
  aru : IsAru (dats es) ar
  len : es.length ≤ i
  byt : BytD (dats es)
theorem Wk.nil : Wk 0 [] 0 := ⟨⟨by simp [dats], fun d hd => by simp [dats] at hd, fun d hd => by simp [dats] at hd⟩, ⟨⟨by omega, fun s h1 h2 => by omega⟩, rfl⟩, by simp, fun d hd => by simp [dats] at hd⟩
theorem Wk.put {i : Nat} {es es' : List DaA} {ar ar' : Int} (h : Wk i es ar) {d : Dat} (hm : d.msg.body.length ≤ 140737488351232) (hb : Byt d.msg.body) (he : dats es' = wpD (dats es) d) (ha : IsAru (wpD (dats es) d) ar') : Wk (i + 1) es' ar' := by
  have hle : (wpD (dats es) d).length ≤ (dats es).length + 1 := by unfold wpD; split <;> simp
  refine ⟨by rw [he]; exact wpD_ok h.ok hm, by rw [he]; exact ha, ?_, fun x hx => ?_⟩
  · rw [← he] at hle
    have := h.len
    simp only [dats, List.length_map] at hle
    omega
  · rw [he] at hx
    unfold wpD at hx
    split at hx
    · rcases List.mem_append.1 hx with hx | hx
      · exact h.byt x hx
      · rw [List.mem_singleton] at hx; rw [hx]; exact hb
    · exact h.byt x hx
theorem sendL_len {ds : List Dat} (hb : BytD ds) {m : Msg} (h : m ∈ sendL ds) : m.body.length ≤ 160 := by
  unfold sendL at h
  rw [List.mem_filterMap] at h
  obtain ⟨d, hd, e⟩ := h
  split at e
  · rename_i h0
    simp only [Option.some.injEq] at e
    unfold old at h0 e
    split at h0
    · rename_i h1
      rw [if_pos h1] at e
      rw [← e]
      exact (check_ok (check_oldM h1.1 (hb d hd) h1.2.1 h1.2.2)).1
    · simp at h0
  · cases e
structure Kst where
  i : Nat
  es : List DaA
  ar : Int
  hi : Int
  fs : List DaA
  av : Option Addr
  cv : Nat
set_option maxHeartbeats 2000000 in
theorem h5 (a : Option Addr) (c : Nat) (l : List DaA) (w : World) (hr : Rd w a (l.flatMap DaA.row)) (hR : ∀ x ∈ l, DaB w x) (hm : l.length ≤ 140737488355328) :
    CallsTo Tryz.prog 5 [.slice a l.length c] w fun v w' => ∃ bw bm es ar hi bv' av cv fs, v = .tuple [.pointer (some ⟨bw, 0, none⟩), .pointer (some ⟨bv', 0, none⟩)].toArray ∧ Wk 60 es ar ∧ dats fs = dats es ∧ New1 (both (vO bv' av cv fs hi) (wO bw bm es ar hi)) w w' := by
  refine go_in (n := 33) (St.rd1 hr) Tryz.func5 rfl rfl ?_
  repeat'(first|refine kv' ?_|apply jJ|refine jE' ?_|refine jp' ?_|(apply jc;kernel_rfl)|refine kg' ?_|refine kG' ?_|refine kB' fun _=>?_|refine kA' fun _=>?_|refine kK' fun _=>?_|refine kU' ?_|((first|refine kR' ?_ ?_|refine kQ' ?_ ?_);all_goals(intro hc;try simp only[hcs]at hc;try(exfalso;first|contradiction|omega))))
  apply LR.call
  · exact rfl
  intro w1 h1
  refine CallsTo.mono (show CallsTo Tryz.prog 17 [] w1 _ from t24 w1) ?_
  rintro v w2 ⟨bw, bm, rfl, hn⟩
  refine LR.back (h1.got hn (wO_dep _ _ _ _ _)) ?_
  clear hn h1
  repeat'(first|refine kv' ?_|apply jJ|refine jE' ?_|refine jp' ?_|(apply jc;kernel_rfl)|refine kg' ?_|refine kG' ?_|refine kB' fun _=>?_|refine kA' fun _=>?_|refine kK' fun _=>?_|refine kU' ?_|((first|refine kR' ?_ ?_|refine kQ' ?_ ?_);all_goals(intro hc;try simp only[hcs]at hc;try(exfalso;first|contradiction|omega))))
  apply LR.call
  · exact rfl
  intro w1 h1
  refine CallsTo.mono (show CallsTo Tryz.prog 20 [] w1 _ from t25 w1) ?_
  rintro v w2 ⟨bv', rfl, hn⟩
  refine LR.back (h1.got hn (vO_dep _ _ _ _ _)) ?_
  clear hn h1
  repeat'(first|refine kv' ?_|apply jJ|refine jE' ?_|refine jp' ?_|(apply jc;kernel_rfl)|refine kg' ?_|refine kG' ?_|refine kB' fun _=>?_|refine kA' fun _=>?_|refine kK' fun _=>?_|refine kU' ?_|((first|refine kR' ?_ ?_|refine kQ' ?_ ?_);all_goals(intro hc;try simp only[hcs]at hc;try(exfalso;first|contradiction|omega))))
  apply CW.loop [6, 9, 10, 11, 12, 13, 14, 15, 16, 17, 18, 19, 20, 21, 22, 23, 24, 25, 26, 27, 28, 29, 30] (fun s : Kst => s.i ≤ l.length ∧ s.i ≤ 60 ∧ Wk s.i s.es s.ar ∧ dats s.fs = dats s.es) (fun s => [(6, .int .i64 (s.i : Int))])
    (fun s => St w NoF [vO bv' s.av s.cv s.fs s.hi, wO bw bm s.es s.ar s.hi, rdA a (l.flatMap DaA.row)]) (fun s => l.length - s.i)
  · intro w' hw'
    exact ⟨⟨0, [], 0, 0, [], none, 0⟩, ⟨by simp, by simp, Wk.nil, rfl⟩, ⟨rfl, trivial⟩, hw'⟩
  rintro ⟨i, es, ar, hi, fs, av, cv⟩ g1 ⟨hil, hi60, hW, hfs⟩
  simp only at hil hi60 hW hfs ⊢
  have hes := hW.len
  have hfl : fs.length = es.length := by have := congrArg List.length hfs; simpa [dats] using this
  have hokf : WOk (dats fs) := by rw [hfs]; exact hW.ok
  by_cases hlt : i < l.length ∧ i < 60
  · obtain ⟨hlt, h60⟩ := hlt
    obtain ⟨bg, og, rfl⟩ := hr.form (rows_ne DaA.row_len (by omega) hlt)
    obtain ⟨x, hx⟩ : ∃ x, x = l[i] := ⟨_, rfl⟩
    have hxR := hR x (by rw [hx]; exact List.getElem_mem hlt)
    repeat'(first|refine kv' ?_|apply jJ|refine jE' ?_|refine jp' ?_|(apply jc;kernel_rfl)|refine kg' ?_|refine kG' ?_|refine kB' fun _=>?_|refine kA' fun _=>?_|refine kK' fun _=>?_|refine kU' ?_|(apply idxX;(iterate 2 exact rfl);(iterate 2(first|omega|(dsimp only;omega)));exact rfl)|(apply LR.ev; (· apply Ev.load_agg_at (cs := x.row); (· exact rfl); (· exact rfl); (· intro w' hw'; rw [hx]; exact rd_row DaA.row_len (hw'.rd_of (by (repeat (first | exact mH _ _ | apply mT)))) hlt (by simp))); (· exact rfl))|((first|refine kR' ?_ ?_|refine kQ' ?_ ?_);all_goals(intro hc;try simp only[hcs]at hc;try(exfalso;first|contradiction|omega))))
    apply LR.call
    · exact rfl
    intro w1 h1
    refine CallsTo.mono (show CallsTo Tryz.prog 10 [.pointer (some ⟨bw, 0, none⟩), x.d.val x.a x.c] w1 _ from t29 bw bm es ar hi x.d x.a x.c w1 (h1.holds _ (by (repeat (first | exact mH _ _ | apply mT)))) hW.ok hW.aru (h1.oldRd hxR.hr) hxR.hz (h1.oldApart (x := wO bw bm es ar hi) (by (repeat (first | exact mH _ _ | apply mT))) rfl hxR.hr) hxR.hm) ?_
    rintro v w2 ⟨es', ar', rfl, he, ha, hst⟩
    refine LR.back (h1.did (by (repeat (first | exact sH _ _ _ | apply sT))) rfl hst (wO_dep _ _ _ _ _)) ?_
    clear hst h1
    have hW' := hW.put hxR.hm hxR.hb he ha
    repeat'(first|refine kv' ?_|apply jJ|refine jE' ?_|refine jp' ?_|(apply jc;kernel_rfl)|refine kg' ?_|refine kG' ?_|refine kB' fun _=>?_|refine kA' fun _=>?_|refine kK' fun _=>?_|refine kU' ?_|(apply idxX;(iterate 2 exact rfl);(iterate 2(first|omega|(dsimp only;omega)));exact rfl)|(apply LR.ev; (· apply Ev.load_agg_at (cs := x.row); (· exact rfl); (· exact rfl); (· intro w' hw'; rw [hx]; exact rd_row DaA.row_len (hw'.rd_of (by (repeat (first | exact mH _ _ | apply mT)))) hlt (by simp))); (· exact rfl))|(apply addX;(iterate 2 exact rfl);(iterate 2(first|omega|(dsimp only;omega)));exact rfl)|((first|refine kR' ?_ ?_|refine kQ' ?_ ?_);all_goals(intro hc;try simp only[hcs]at hc;try(exfalso;first|contradiction|omega))))
    apply LR.call
    · exact rfl
    intro w1 h1
    have ht := t30 bv' av cv fs hi x.d x.a x.c w1 (h1.holds _ (by (repeat (first | exact mH _ _ | apply mT)))) hokf (by omega) (h1.oldRd hxR.hr) hxR.hz (h1.oldApart (x := vO bv' av cv fs hi) (by (repeat (first | exact mH _ _ | apply mT))) rfl hxR.hr) hxR.hm
    rw [hfs, ← he] at ht
    refine CallsTo.mono (show CallsTo Tryz.prog 21 [.pointer (some ⟨bv', 0, none⟩), x.d.val x.a x.c] w1 _ from ht) ?_
    clear ht
    rintro v w2 ⟨fs', av', cv', rfl, hfs2, hfl', hst⟩
    refine LR.back (h1.did (by (repeat (first | exact sH _ _ _ | apply sT))) rfl hst (vO_dep _ _ _ _ _)) ?_
    clear hst h1
    repeat'(first|refine kv' ?_|apply jJ|refine jE' ?_|refine jp' ?_|(apply jc;kernel_rfl)|refine kg' ?_|refine kG' ?_|refine kB' fun _=>?_|refine kA' fun _=>?_|refine kK' fun _=>?_|refine kU' ?_|(apply addX;(iterate 2 exact rfl);(iterate 2(first|omega|(dsimp only;omega)));exact rfl)|((first|refine kR' ?_ ?_|refine kQ' ?_ ?_);all_goals(intro hc;try simp only[hcs]at hc;try(exfalso;first|contradiction|omega))))
    refine At.again (⟨i + 1, es', ar', wpH (dats es) hi x.d, fs', av', cv'⟩ : Kst) ⟨by simp only; omega, by simp only; omega, hW', hfs2⟩ ?_ ⟨rfl, trivial⟩ (fun w' hw' => hw'.sub (by (repeat (first | exact List.Sublist.refl _ | apply List.Sublist.cons_cons | apply List.Sublist.cons)))) (by simp only; omega)
    (repeat (first | exact Out.refl _ _ | exact Out.mix | (apply Out.upd; (· exact rfl)) | (apply Out.updL; (· exact rfl)) | (apply Out.mixs; (· exact rfl))))
  · rcases Nat.lt_or_ge i l.length with h60 | h60
    all_goals (
      repeat'(first|refine kv' ?_|apply jJ|refine jE' ?_|refine jp' ?_|(apply jc;kernel_rfl)|refine kg' ?_|refine kG' ?_|refine kB' fun _=>?_|refine kA' fun _=>?_|refine kK' fun _=>?_|refine kU' ?_|((first|refine kR' ?_ ?_|refine kQ' ?_ ?_);all_goals(intro hc;try simp only[hcs]at hc;try(exfalso;first|contradiction|omega))))
      (apply ret2; (· exact rfl); intro w' hS)
      exact ⟨bw, bm, es, ar, hi, bv', av, cv, fs, rfl, ⟨hW.ok, hW.aru, by omega, hW.byt⟩, hfs, St.new1 ((hS.sub (L' := [vO bv' av cv fs hi, wO bw bm es ar hi]) (by (repeat (first | exact List.Sublist.refl _ | apply List.Sublist.cons_cons | apply List.Sublist.cons)))).join rfl rfl) rfl⟩)
end Go.Proofs.YtgblmkpfkcibiaaGreat

namespace Go.Proofs.YtgblmkpfkcibiaaGreat
open Go.Hb
attribute [local irreducible] LR CW At Ev thn blk finK noG again CallsTo DW QL dnext TW DP
set_option linter.unusedSimpArgs false
set_option linter.unusedVariables false
set_option maxRecDepth 100000

def datW : Dat := ⟨1, 1, 999, 1, 0, ⟨3, 1, 0, 0, 0, 0, 0, false, 0, 0, 0, 0, []⟩⟩
structure Lst where
  L : List MsA
  ag : Option Addr
  cg : Nat
  L2 : List MsA
  ah : Option Addr
  ch : Nat
set_option maxHeartbeats 4000000 in
theorem h3 (a : Option Addr) (c : Nat) (l : List DaA) (low : Int) (w : World) (hr : Rd w a (l.flatMap DaA.row)) (hR : ∀ x ∈ l, DaB w x) (hm : l.length ≤ 140737488355328) :
    CallsTo Tryz.prog 3 [.slice a l.length c, .int .i64 low] w fun v w' => v = .bool true ∧ Grew w w' := by
  refine go_in (n := 98) (St.rd1 hr) Tryz.func3 rfl rfl ?_
  repeat'(first|refine kv' ?_|apply jJ|refine jE' ?_|refine jp' ?_|(apply jc;kernel_rfl)|refine kg' ?_|refine kG' ?_|refine kB' fun _=>?_|refine kA' fun _=>?_|refine kK' fun _=>?_|refine kU' ?_|((first|refine kR' ?_ ?_|refine kQ' ?_ ?_);all_goals(intro hc;try simp only[hcs]at hc;try(exfalso;first|contradiction|omega))))
  apply LR.call
  · exact rfl
  intro w1 h1
  refine (h5 a c l w1 (h1.rd_of (by (repeat (first | exact mH _ _ | apply mT)))) (fun x hx => ⟨h1.oldRd (hR x hx).hr, (hR x hx).hz, (hR x hx).hm, (hR x hx).hb⟩) hm).mono ?_
  rintro v w2 ⟨bw, bm, es, ar, hi, bv', av, cv, fs, rfl, hW, hfs, hn⟩
  refine LR.back ((h1.got hn (both_dep (vO_dep _ _ _ _ _) (wO_dep _ _ _ _ _))).part (vO_dep _ _ _ _ _) (wO_dep _ _ _ _ _)) ?_
  clear hn h1
  have hel := hW.len
  have hfl : fs.length = es.length := by have := congrArg List.length hfs; simpa [dats] using this
  repeat'(first|refine kv' ?_|apply jJ|refine jE' ?_|refine jp' ?_|(apply jc;kernel_rfl)|refine kg' ?_|refine kG' ?_|refine kB' fun _=>?_|refine kA' fun _=>?_|refine kK' fun _=>?_|refine kU' ?_|((first|refine kR' ?_ ?_|refine kQ' ?_ ?_);all_goals(intro hc;try simp only[hcs]at hc;try(exfalso;first|contradiction|omega))))
  apply LR.call
  · exact rfl
  intro w1 h1
  refine (show CallsTo Tryz.prog 6 [.pointer (some ⟨bw, 0, none⟩), .int .i64 low] w1 _ from g39 bw bm es ar hi low w1 (h1.holds _ (by (repeat (first | exact mH _ _ | apply mT)))) hW.ok (by omega) hW.byt).mono ?_
  rintro v w2 ⟨b, ag, cg, L, rfl, hL, hn⟩
  refine LR.back (h1.got hn (gO_dep _ _ _ _)) ?_
  clear hn h1
  repeat'(first|refine kv' ?_|apply jJ|refine jE' ?_|refine jp' ?_|(apply jc;kernel_rfl)|refine kg' ?_|refine kG' ?_|refine kB' fun _=>?_|refine kA' fun _=>?_|refine kK' fun _=>?_|refine kU' ?_|((first|refine kR' ?_ ?_|refine kQ' ?_ ?_);all_goals(intro hc;try simp only[hcs]at hc;try(exfalso;first|contradiction|omega))))
  apply LR.call
  · exact rfl
  intro w1 h1
  refine (h7 bv' av cv fs hi low w1 (h1.holds _ (by (repeat (first | exact mH _ _ | apply mT)))) (by rw [hfs]; exact hW.ok) (by omega) (by rw [hfs]; exact hW.byt)).mono ?_
  rintro v w2 ⟨b2, ah, ch, L2, rfl, hL2, hn⟩
  refine LR.back (h1.got hn (hO_dep _ _ _ _)) ?_
  clear hn h1
  rw [hfs, ← hL] at hL2
  have hll : L2.length = L.length := by have := congrArg List.length hL2; simpa using this
  have hlb : ∀ y ∈ L, y.m.body.length ≤ 160 := fun y hy => sendL_len (ds := abvT (dats es) low) (fun d hd => hW.byt d (abv_mem hd)) (by rw [← hL]; exact List.mem_map_of_mem hy)
  repeat'(first|refine kv' ?_|apply jJ|refine jE' ?_|refine jp' ?_|(apply jc;kernel_rfl)|refine kg' ?_|refine kG' ?_|refine kB' fun _=>?_|refine kA' fun _=>?_|refine kK' fun _=>?_|refine kU' ?_|(apply kq; (· exact rfl); (· intro w1 h1; first | exact CallsTo.q (g40 b ag cg L.length w1 (gO_rd (h1.holds (gO b ag cg L) (by (repeat (first | exact mH _ _ | apply mT)))))) h1 | exact CallsTo.q (h9 b2 ah ch L.length w1 (by rw [← hll]; exact hO_rd (h1.holds (hO b2 ah ch L2) (by (repeat (first | exact mH _ _ | apply mT)))))) h1))|((first|refine kR' ?_ ?_|refine kQ' ?_ ?_);all_goals(intro hc;try simp only[hcs]at hc;try(exfalso;first|contradiction|omega))))
  apply LR.call
  · exact rfl
  intro w1 h1
  refine CallsTo.mono (show CallsTo Tryz.prog 10 [.pointer (some ⟨bw, 0, none⟩), datW.val none 0] w1 _ from t29 bw bm es ar hi datW none 0 w1 (h1.holds _ (by (repeat (first | exact mH _ _ | apply mT)))) hW.ok hW.aru (Rd.nil _ _) (fun _ => rfl) (fun k hk => by obtain ⟨_, _, e, _⟩ := hk; cases e) (Nat.zero_le _)) ?_
  rintro v w2 ⟨es', ar', rfl, _, _, hst⟩
  refine LR.back (h1.did (by (repeat (first | exact sH _ _ _ | apply sT))) rfl hst (wO_dep _ _ _ _ _)) ?_
  clear hst h1
  repeat'(first|refine kv' ?_|apply jJ|refine jE' ?_|refine jp' ?_|(apply jc;kernel_rfl)|refine kg' ?_|refine kG' ?_|refine kB' fun _=>?_|refine kA' fun _=>?_|refine kK' fun _=>?_|refine kU' ?_|((first|refine kR' ?_ ?_|refine kQ' ?_ ?_);all_goals(intro hc;try simp only[hcs]at hc;try(exfalso;first|contradiction|omega))))
  apply CW.loop [4, 11, 12, 13, 14, 15, 52, 53, 54, 55, 56, 57, 58, 59, 60, 61, 62, 63, 64, 65, 66, 67, 68, 69, 70, 71, 72, 73, 74, 75, 76, 77, 78, 79, 80, 81, 82, 83, 84, 85, 86, 87, 88, 89, 90, 91, 92, 93, 94, 95, 96, 97] (fun s : Lst => s.L2.map MsA.m = s.L.map MsA.m ∧ ∀ y ∈ s.L, y.m.body.length ≤ 160) (fun _ => []) (fun s => St w NoF [hO b2 s.ah s.ch s.L2, gO b s.ag s.cg s.L]) (fun s => s.L.length)
  · intro w' hw'
    exact ⟨⟨L, ag, cg, L2, ah, ch⟩, ⟨hL2, hlb⟩, trivial, hw'.sub (by (repeat (first | exact List.Sublist.refl _ | apply List.Sublist.cons_cons | apply List.Sublist.cons)))⟩
  clear hL hL2 hll hlb
  rintro ⟨L, ag, cg, L2, ah, ch⟩ g1 ⟨hL2, hlb⟩
  simp only at hL2 hlb ⊢
  have hll : L2.length = L.length := by have := congrArg List.length hL2; simpa using this
  cases L with
  | nil =>
    obtain rfl : L2 = [] := List.eq_nil_of_length_eq_zero hll
    repeat'(first|refine kv' ?_|apply jJ|refine jE' ?_|refine jp' ?_|(apply jc;kernel_rfl)|refine kg' ?_|refine kG' ?_|refine kB' fun _=>?_|refine kA' fun _=>?_|refine kK' fun _=>?_|refine kU' ?_|(apply kq; (· exact rfl); (· intro w1 h1; first | exact CallsTo.q (g41e b ag cg w1 (gO_rd (h1.holds (gO b ag cg []) (by (repeat (first | exact mH _ _ | apply mT)))))) h1 | exact CallsTo.q (h12e b2 ah ch w1 (hO_rd (h1.holds (hO b2 ah ch []) (by (repeat (first | exact mH _ _ | apply mT)))))) h1 | exact CallsTo.q (g40 b ag cg 0 w1 (gO_rd (h1.holds (gO b ag cg []) (by (repeat (first | exact mH _ _ | apply mT)))))) h1 | exact CallsTo.q (h9 b2 ah ch 0 w1 (hO_rd (h1.holds (hO b2 ah ch []) (by (repeat (first | exact mH _ _ | apply mT)))))) h1 | exact CallsTo.q (g35 w1) h1 | (have hq := CallsTo.q (c20 zeroMsg zeroMsg none none 0 0 w1 (Rd.nil _ _) (Rd.nil _ _) (Nat.zero_le _)) h1; rw [sameB_self] at hq; show CallsTo Tryz.prog 13 [zeroMsg.val none 0, zeroMsg.val none 0] w1 _; exact hq)))|((first|refine kR' ?_ ?_|refine kQ' ?_ ?_);all_goals(intro hc;try simp only[hcs]at hc;try(exfalso;first|contradiction|omega))))
    (apply ret1; (· exact rfl); intro w' hS)
    exact ⟨rfl, hS.toKeep⟩
  | cons y r =>
    obtain ⟨y2, r2, rfl⟩ : ∃ y2 r2, L2 = y2 :: r2 := by cases L2 with | nil => simp at hll | cons y r => exact ⟨y, r, rfl⟩
    have hyy : y2.m = y.m := (List.cons.inj hL2).1
    have hrr : r2.map MsA.m = r.map MsA.m := (List.cons.inj hL2).2
    have hrl : r2.length = r.length := by have := congrArg List.length hrr; simpa using this
    have hyl : y.m.body.length ≤ 160 := hlb y List.mem_cons_self
    repeat'(first|refine kv' ?_|apply jJ|refine jE' ?_|refine jp' ?_|(apply jc;kernel_rfl)|refine kg' ?_|refine kG' ?_|refine kB' fun _=>?_|refine kA' fun _=>?_|refine kK' fun _=>?_|refine kU' ?_|((first|refine kR' ?_ ?_|refine kQ' ?_ ?_);all_goals(intro hc;try simp only[hcs]at hc;try(exfalso;first|contradiction|omega))))
    apply LR.call
    · exact rfl
    intro w1 h1
    refine (show CallsTo Tryz.prog 11 [.pointer (some ⟨b, 0, none⟩)] w1 _ from g41 b ag cg y r w1 (h1.holds _ (by (repeat (first | exact mH _ _ | apply mT)))) (by omega)).mono ?_
    rintro v w2 ⟨a1g, c1g, ap, cp, rfl, st⟩
    refine LR.back (h1.two st rfl rfl rfl (by (repeat (first | exact sH _ _ _ | apply sT)))) ?_
    clear h1 st
    repeat'(first|(apply kA; (· exact rfl); intro b11)|refine kv' ?_|apply jJ|refine jE' ?_|refine jp' ?_|(apply jc;kernel_rfl)|refine kg' ?_|refine kG' ?_|refine kB' fun _=>?_|refine kA' fun _=>?_|refine kK' fun _=>?_|refine kU' ?_|((first|refine kR' ?_ ?_|refine kQ' ?_ ?_);all_goals(intro hc;try simp only[hcs]at hc;try(exfalso;first|contradiction|omega))))
    apply LR.call
    · exact rfl
    intro w1 h1
    refine (h12 b2 ah ch y2 r2 w1 (h1.holds _ (by (repeat (first | exact mH _ _ | apply mT)))) (by rw [hyy]; omega)).mono ?_
    rintro v w2 ⟨a2g, c2g, aq, cq, rfl, st⟩
    refine LR.back (h1.two st rfl rfl rfl (by (repeat (first | exact sH _ _ _ | apply sT)))) ?_
    clear h1 st
    rw [hyy]
    repeat'(first|refine kv' ?_|apply jJ|refine jE' ?_|refine jp' ?_|(apply jc;kernel_rfl)|refine kg' ?_|refine kG' ?_|refine kB' fun _=>?_|refine kA' fun _=>?_|refine kK' fun _=>?_|refine kU' ?_|(apply kq; (· exact rfl); (· intro w1 h1; first | exact CallsTo.q (g40 b a1g c1g r.length w1 (gO_rd (h1.holds (gO b a1g c1g r) (by (repeat (first | exact mH _ _ | apply mT)))))) h1 | exact CallsTo.q (h9 b2 a2g c2g r.length w1 (by rw [← hrl]; exact hO_rd (h1.holds (hO b2 a2g c2g r2) (by (repeat (first | exact mH _ _ | apply mT)))))) h1 | (have hb1 : (MsA.body ⟨y.m, ap, cp⟩).holds w1 := h1.holds _ (by (repeat (first | exact mH _ _ | apply mT))); have hb2 : (MsA.body ⟨y.m, aq, cq⟩).holds w1 := h1.holds _ (by (repeat (first | exact mH _ _ | apply mT))); have hq := CallsTo.q (c20 y.m y.m ap aq cp cq w1 (ownsRow_rd hb1) (ownsRow_rd hb2) (by omega)) h1; rw [sameB_self] at hq; show CallsTo Tryz.prog 13 [y.m.val ap cp, y.m.val aq cq] w1 _; exact hq)))|((first|refine kR' ?_ ?_|refine kQ' ?_ ?_);all_goals(intro hc;try simp only[hcs]at hc;try(exfalso;first|contradiction|omega))))
    apply CW.loop [15, 81, 82, 83, 84, 85, 86, 87, 88, 89, 90, 91, 92, 93, 94, 95, 96, 97] (fun s : Nat × List Int => s.1 ≤ y.m.body.length ∧ s.2.length = y.m.body.length) (fun s => [(15, Value.int .i64 (s.1 : Int))])
      (fun s => St w NoF [osl (.slice ap y.m.body.length cp) 5 1 y.m.body.length (bv s.2), .own b11 (.cells (y.m.cells ap cp).toArray 43 (0, 0)), hO b2 a2g c2g r2, gO b a1g c1g r]) (fun s => y.m.body.length - s.1)
    · intro w' hw'
      have h1 : St w NoF [.own b11 (.cells (y.m.cells ap cp).toArray 43 (0, 0)), MsA.body ⟨y.m, ap, cp⟩, hO b2 a2g c2g r2, gO b a1g c1g r] w' := hw'.sub (by (repeat (first | exact List.Sublist.refl _ | apply List.Sublist.cons_cons | apply List.Sublist.cons)))
      exact ⟨(0, y.m.body), ⟨by simp, rfl⟩, ⟨rfl, trivial⟩, h1.swap⟩
    rintro ⟨k, bs⟩ g2 ⟨hk, hbs⟩
    simp only at hk hbs ⊢
    by_cases hlt3 : k < y.m.body.length
    · have hne : (bv bs) ≠ [] := fun e => by
        have e2 : bs.length = 0 := by simpa [bv] using congrArg List.length e
        omega
      refine LR_cls_cw fun w1 hw1 => ?_
      obtain ⟨bx, ox, rfl⟩ := (ownsRow_rd hw1.g0).form hne
      refine CW.sub (D := St w NoF _) ?_ (fun u e => e ▸ hw1)
      clear hw1 w1
      repeat'(first|(apply CW.reg_sinkC 10; (· exact rfl); (· decide +kernel))|refine kv' ?_|apply jJ|refine jE' ?_|refine jp' ?_|(apply jc;kernel_rfl)|refine kg' ?_|refine kG' ?_|refine kB' fun _=>?_|refine kA' fun _=>?_|refine kK' fun _=>?_|refine kU' ?_|(apply idxX;(iterate 2 exact rfl);(iterate 2(first|omega|(dsimp only;omega)));exact rfl)|((first|refine kR' ?_ ?_|refine kQ' ?_ ?_);all_goals(intro hc;try simp only[hcs]at hc;try(exfalso;first|contradiction|omega))))
      all_goals (
        apply DW.quiet [0, 1, 2, 3, 4, 5, 6, 7, 8, 9]
        · decide +kernel
        · first | exact fun _ h => h | exact fun _ h => St.sub h (by repeat (first | exact List.Sublist.refl _ | apply List.Sublist.cons_cons | apply List.Sublist.cons))
        repeat'(first|refine yv' ?_|(apply QL.ev; (· exact rfl); (· first | (apply Ev.indexAddr; (· exact rfl); (· exact rfl); (· omega); (· omega)) | (apply Ev.load_osl; (· exact rfl); (· (repeat (first | exact mH _ _ | apply mT))); (· exact bv_at (l := bs) (i := k) (by simp) (by omega))) | (apply Ev.xor; (· exact rfl); (· exact rfl))); (· exact rfl))|refine uv' ?_|refine un' ?_|(refine us' ?_ ?_;all_goals(intro hc;try simp only[hcs]at hc;try(exfalso;first|contradiction|omega)))|apply QL.nil)
        all_goals (show DW _ _ _ _ _ _ _ _))
      all_goals (apply DW.done; (· decide +kernel))
      all_goals apply At.sink
      refine LR.store_obj (v := .int .u8 (xorI .u8 bs[k] 90)) (z' := osl (.slice (some ⟨bx, ox, none⟩) y.m.body.length cp) 5 1 y.m.body.length (bv (bs.set k (xorI .u8 bs[k] 90)))) rfl rfl (sH _ _ _) rfl ?_ (osl.dep _ _ _ _ _) ?_
      · have st := Stores.osl (P := Tryz.prog) (T := 5) (q := 1) (b := bx) (o := ox) (i := (k : Int).toNat * 1) (n := y.m.body.length) (c := cp) (v := .int .u8 (xorI .u8 bs[k] 90)) (vs := [.int .u8 (xorI .u8 bs[k] 90)]) (xs := bv bs) (E := 5) (sz := 1) inferInstance rfl rfl rfl (by simp; omega)
        rw [show (k : Int).toNat * 1 = k by omega] at st ⊢
        rwa [splice_bv _ _ _ (by omega)] at st
      repeat'(first|refine kv' ?_|apply jJ|refine jE' ?_|refine jp' ?_|(apply jc;kernel_rfl)|refine kg' ?_|refine kG' ?_|refine kB' fun _=>?_|refine kA' fun _=>?_|refine kK' fun _=>?_|refine kU' ?_|(apply addX;(iterate 2 exact rfl);(iterate 2(first|omega|(dsimp only;omega)));exact rfl)|((first|refine kR' ?_ ?_|refine kQ' ?_ ?_);all_goals(intro hc;try simp only[hcs]at hc;try(exfalso;first|contradiction|omega))))
      apply At.again (k + 1, bs.set k (xorI .u8 bs[k] 90)) ⟨by show k + 1 ≤ _; omega, by simp [hbs]⟩
      · (repeat (first | exact Out.refl _ _ | exact Out.mix | (apply Out.upd; (· exact rfl)) | (apply Out.updL; (· exact rfl)) | (apply Out.mixs; (· exact rfl))))
      · exact ⟨rfl, trivial⟩
      · exact fun w' hw' => hw'
      · show y.m.body.length - (k + 1) < y.m.body.length - k
        omega
    · repeat'(first|refine kv' ?_|apply jJ|refine jE' ?_|refine jp' ?_|(apply jc;kernel_rfl)|refine kg' ?_|refine kG' ?_|refine kB' fun _=>?_|refine kA' fun _=>?_|refine kK' fun _=>?_|refine kU' ?_|((first|refine kR' ?_ ?_|refine kQ' ?_ ?_);all_goals(intro hc;try simp only[hcs]at hc;try(exfalso;first|contradiction|omega))))
      refine At.again (⟨r, a1g, c1g, r2, a2g, c2g⟩ : Lst) ⟨hrr, fun z hz => hlb z (List.mem_cons_of_mem _ hz)⟩ ?_ trivial (fun w' hw' => hw'.sub (by (repeat (first | exact List.Sublist.refl _ | apply List.Sublist.cons_cons | apply List.Sublist.cons)))) (by simp)
      (repeat (first | exact Out.refl _ _ | exact Out.mix | (apply Out.upd; (· exact rfl)) | (apply Out.updL; (· exact rfl)) | (apply Out.mixs; (· exact rfl))))
end Go.Proofs.YtgblmkpfkcibiaaGreat

namespace Go.Proofs.YtgblmkpfkcibiaaGreat
open Go.Hb
attribute [local irreducible] LR CW At Ev thn blk finK noG again CallsTo DW QL dnext TW DP
set_option linter.unusedSimpArgs false
set_option linter.unusedVariables false
set_option maxRecDepth 100000

theorem opn_dab : Opn Tryz.prog 45 (fun w cs => ∃ x : DaA, cs = x.row ∧ DaB w x) :=
  opn_dat.mono fun w cs ⟨d, a, c, h, hr, hb, hz, hm, _⟩ => ⟨⟨d, a, c⟩, h, hr, hz, hm, hb⟩
theorem opn_datas : Opn Tryz.prog 22 (fun w cs => ∃ (a : Option Addr) (c : Nat) (l : List DaA), cs = [.slice a l.length c] ∧ Rd w a (l.flatMap DaA.row) ∧ (∀ x ∈ l, DaB w x) ∧ (a = none → c = 0) ∧ l.length ≤ c ∧ l.length ≤ 140737488351232) := by
  refine (opn_slice Tryz.underlying22 (sz := 18) (by_ := 160) (by kernel_rfl) (by omega) (by kernel_rfl) opn_dab).mono ?_
  rintro w cs ⟨a, len, cap, css, rfl, rfl, hg, hr, hz, hc, hm⟩
  obtain ⟨l, h1, h2, h3⟩ := rows_of css fun c hc => (hg c hc).1
  rw [h1] at hr
  have hm : css.length * 160 ≤ 140737488351232 := hm
  exact ⟨a, cap, l, by rw [h2], hr, h3, hz, by omega, by omega⟩
end Go.Proofs.YtgblmkpfkcibiaaGreat

namespace Go.Proofs.YtgblmkpfkcibiaaGreat
open Go.Hb
attribute [local irreducible] LR CW At Ev thn blk finK noG again CallsTo DW QL dnext TW DP
set_option linter.unusedSimpArgs false
set_option linter.unusedVariables false
set_option maxRecDepth 100000

/-- No regain: nil, or one that is zero. -/
def NoG (w : World) (p : Option Addr) : Prop := p = none ∨ ∃ b, p = some ⟨b, 0, none⟩ ∧ Rd w (some ⟨b, 0, none⟩) [.bool false, .slice none 0 0]
theorem k11 (p : Option Addr) (w : World) (h : NoG w p) : CallsTo Tryz.prog 11 [.pointer p] w fun v w' => v = .tuple [zeroMsg.val none 0, .int .i64 1].toArray ∧ Grew w w' := by
  rcases h with rfl | ⟨b, rfl, hr⟩
  · refine go_in (n := 43) (St.refl _ NoF) Tryz.func11 rfl rfl ?_
    repeat'(first|refine kv' ?_|apply jJ|refine jE' ?_|refine jp' ?_|(apply jc;kernel_rfl)|refine kg' ?_|refine kG' ?_|refine kB' fun _=>?_|refine kA' fun _=>?_|refine kK' fun _=>?_|refine kU' ?_|((first|refine kR' ?_ ?_|refine kQ' ?_ ?_);all_goals(intro hc;try simp only[hcs]at hc;try(exfalso;first|contradiction|omega))))
    (apply ret2c; (· exact rfl); (· exact inferInstance); (· exact rfl); (· (repeat (first | exact List.Mem.head _ | apply List.Mem.tail))); (· exact rfl); intro w' hS)
    exact ⟨rfl, hS.toKeep⟩
  · refine go_in (n := 43) (St.rd1 hr) Tryz.func11 rfl rfl ?_
    repeat'(first|refine kv' ?_|apply jJ|refine jE' ?_|refine jp' ?_|(apply jc;kernel_rfl)|refine kg' ?_|refine kG' ?_|refine kB' fun _=>?_|refine kA' fun _=>?_|refine kK' fun _=>?_|refine kU' ?_|((first|refine kR' ?_ ?_|refine kQ' ?_ ?_);all_goals(intro hc;try simp only[hcs]at hc;try(exfalso;first|contradiction|omega))))
    (apply ret2c; (· exact rfl); (· exact inferInstance); (· exact rfl); (· (repeat (first | exact List.Mem.head _ | apply List.Mem.tail))); (· exact rfl); intro w' hS)
    exact ⟨rfl, hS.toKeep⟩
theorem k8 (p : Option Addr) (w : World) (h : NoG w p) : CallsTo Tryz.prog 8 [.pointer p] w fun v w' => v = .int .i64 0 ∧ Grew w w' := by
  rcases h with rfl | ⟨b, rfl, hr⟩
  · refine go_in (n := 10) (St.refl _ NoF) Tryz.func8 rfl rfl ?_
    repeat'(first|refine kv' ?_|apply jJ|refine jE' ?_|refine jp' ?_|(apply jc;kernel_rfl)|refine kg' ?_|refine kG' ?_|refine kB' fun _=>?_|refine kA' fun _=>?_|refine kK' fun _=>?_|refine kU' ?_|((first|refine kR' ?_ ?_|refine kQ' ?_ ?_);all_goals(intro hc;try simp only[hcs]at hc;try(exfalso;first|contradiction|omega))))
    (apply ret1; (· exact rfl); intro w' hS)
    exact ⟨rfl, hS.toKeep⟩
  · refine go_in (n := 10) (St.rd1 hr) Tryz.func8 rfl rfl ?_
    repeat'(first|refine kv' ?_|apply jJ|refine jE' ?_|refine jp' ?_|(apply jc;kernel_rfl)|refine kg' ?_|refine kG' ?_|refine kB' fun _=>?_|refine kA' fun _=>?_|refine kK' fun _=>?_|refine kU' ?_|((first|refine kR' ?_ ?_|refine kQ' ?_ ?_);all_goals(intro hc;try simp only[hcs]at hc;try(exfalso;first|contradiction|omega))))
    (apply ret1; (· exact rfl); intro w' hS)
    exact ⟨rfl, hS.toKeep⟩
theorem k6 (low : Int) (w : World) : CallsTo Tryz.prog 6 [.pointer none, .int .i64 low] w fun v w' => v = .tuple [.pointer none, .int .i64 1].toArray ∧ Grew w w' := by
  refine go_in (n := 42) (St.refl _ NoF) Tryz.func6 rfl rfl ?_
  repeat'(first|refine kv' ?_|apply jJ|refine jE' ?_|refine jp' ?_|(apply jc;kernel_rfl)|refine kg' ?_|refine kG' ?_|refine kB' fun _=>?_|refine kA' fun _=>?_|refine kK' fun _=>?_|refine kU' ?_|((first|refine kR' ?_ ?_|refine kQ' ?_ ?_);all_goals(intro hc;try simp only[hcs]at hc;try(exfalso;first|contradiction|omega))))
  (apply ret2; (· exact rfl); intro w' hS)
  exact ⟨rfl, hS.toKeep⟩
theorem k15n (R1 R2 : Int) (m : Msg) (a : Option Addr) (c : Nat) (w : World) : CallsTo Tryz.prog 15 [.pointer none, .agg [.int .i64 R1, .int .i64 R2].toArray, m.val a c] w fun v w' => v = .tuple [.bool false, .int .i64 1].toArray ∧ Grew w w' := by
  refine go_in (n := 31) (St.refl _ NoF) Tryz.func15 rfl rfl ?_
  repeat'(first|refine kv' ?_|apply jJ|refine jE' ?_|refine jp' ?_|(apply jc;kernel_rfl)|refine kg' ?_|refine kG' ?_|refine kB' fun _=>?_|refine kA' fun _=>?_|refine kK' fun _=>?_|refine kU' ?_|((first|refine kR' ?_ ?_|refine kQ' ?_ ?_);all_goals(intro hc;try simp only[hcs]at hc;try(exfalso;first|contradiction|omega))))
  (apply ret2; (· exact rfl); intro w' hS)
  exact ⟨rfl, hS.toKeep⟩
theorem k15 (bw : Nat) (R1 R2 : Int) (m : Msg) (a : Option Addr) (c : Nat) (w : World) (hr : Rd w a (bv m.body)) (hz : a = none → c = 0) (hl : m.body.length ≤ 140737488355328) (hb : Byt m.body) (hi : inner m = (zeroDat, 2)) :
    CallsTo Tryz.prog 15 [.pointer (some ⟨bw, 0, none⟩), .agg [.int .i64 R1, .int .i64 R2].toArray, m.val a c] w fun v w' => v = .tuple [.bool false, .int .i64 2].toArray ∧ Grew w w' := by
  refine go_in (n := 31) (St.rd1 hr) Tryz.func15 rfl rfl ?_
  repeat'(first|refine kv' ?_|apply jJ|refine jE' ?_|refine jp' ?_|(apply jc;kernel_rfl)|refine kg' ?_|refine kG' ?_|refine kB' fun _=>?_|refine kA' fun _=>?_|refine kK' fun _=>?_|refine kU' ?_|((first|refine kR' ?_ ?_|refine kQ' ?_ ?_);all_goals(intro hc;try simp only[hcs]at hc;try(exfalso;first|contradiction|omega))))
  apply LR.call
  · exact rfl
  intro w1 h1
  have hh := c33 m a c w1 (h1.rd_of (by (repeat (first | exact mH _ _ | apply mT)))) hz hl hb
  rw [hi] at hh
  refine CallsTo.mono (show CallsTo Tryz.prog 34 [m.val a c] w1 _ from hh) ?_
  clear hh
  rintro v w2 ⟨a2, c2, rfl, hn⟩
  refine LR.back (h1.newSl hn) ?_
  clear hn h1
  repeat'(first|refine kv' ?_|apply jJ|refine jE' ?_|refine jp' ?_|(apply jc;kernel_rfl)|refine kg' ?_|refine kG' ?_|refine kB' fun _=>?_|refine kA' fun _=>?_|refine kK' fun _=>?_|refine kU' ?_|((first|refine kR' ?_ ?_|refine kQ' ?_ ?_);all_goals(intro hc;try simp only[hcs]at hc;try(exfalso;first|contradiction|omega))))
  (apply ret2; (· exact rfl); intro w' hS)
  exact ⟨rfl, hS.toKeep⟩
theorem k35 (bv' : Nat) (R1 R2 : Int) (m : Msg) (a : Option Addr) (c : Nat) (w : World) (hr : Rd w a (bv m.body)) (hz : a = none → c = 0) (hl : m.body.length ≤ 140737488355328) (hb : Byt m.body) (hi : inner m = (zeroDat, 2)) :
    CallsTo Tryz.prog 35 [.pointer (some ⟨bv', 0, none⟩), .agg [.int .i64 R1, .int .i64 R2].toArray, m.val a c] w fun v w' => v = .tuple [.bool false, .int .i64 2].toArray ∧ Grew w w' := by
  refine go_in (n := 26) (St.rd1 hr) Tryz.func35 rfl rfl ?_
  repeat'(first|refine kv' ?_|apply jJ|refine jE' ?_|refine jp' ?_|(apply jc;kernel_rfl)|refine kg' ?_|refine kG' ?_|refine kB' fun _=>?_|refine kA' fun _=>?_|refine kK' fun _=>?_|refine kU' ?_|((first|refine kR' ?_ ?_|refine kQ' ?_ ?_);all_goals(intro hc;try simp only[hcs]at hc;try(exfalso;first|contradiction|omega))))
  apply LR.call
  · exact rfl
  intro w1 h1
  have hh := c83 m a c w1 (h1.rd_of (by (repeat (first | exact mH _ _ | apply mT)))) hz hl hb
  rw [hi] at hh
  refine CallsTo.mono (show CallsTo Tryz.prog 55 [m.val a c] w1 _ from hh) ?_
  clear hh
  rintro v w2 ⟨a2, c2, rfl, hn⟩
  refine LR.back (h1.newSl hn) ?_
  clear hn h1
  repeat'(first|refine kv' ?_|apply jJ|refine jE' ?_|refine jp' ?_|(apply jc;kernel_rfl)|refine kg' ?_|refine kG' ?_|refine kB' fun _=>?_|refine kA' fun _=>?_|refine kK' fun _=>?_|refine kU' ?_|((first|refine kR' ?_ ?_|refine kQ' ?_ ?_);all_goals(intro hc;try simp only[hcs]at hc;try(exfalso;first|contradiction|omega))))
  (apply ret2; (· exact rfl); intro w' hS)
  exact ⟨rfl, hS.toKeep⟩
/-- A message that is not sent again, at hand. -/
structure MsB (w : World) (x : MsA) : Prop where
  hr : Rd w x.a (bv x.m.body)
  hz : x.a = none → x.c = 0
  hm : x.m.body.length ≤ 140737488355328
  hb : Byt x.m.body
  hi : inner x.m = (zeroDat, 2)
set_option maxHeartbeats 4000000 in
theorem k19 (a : Option Addr) (c : Nat) (l : List DaA) (R1 R2 : Int) (az : Option Addr) (cs : Nat) (ss : List MsA) (w : World) (hr : Rd w a (l.flatMap DaA.row)) (hR : ∀ x ∈ l, DaB w x) (hm : l.length ≤ 140737488355328)
    (hs : Rd w az (ss.flatMap MsA.row)) (hSs : ∀ x ∈ ss, MsB w x) (hsm : ss.length ≤ 140737488355328) :
    CallsTo Tryz.prog 19 [.slice a l.length c, .agg [.int .i64 R1, .int .i64 R2].toArray, .slice az ss.length cs] w fun v w' => v = .bool true ∧ Grew w w' := by
  refine go_in (n := 114) (St.rd2 hr hs) Tryz.func19 rfl rfl ?_
  repeat'(first|(apply kB;(iterate 2 exact rfl);intro b4)|refine kv' ?_|apply jJ|refine jE' ?_|refine jp' ?_|(apply jc;kernel_rfl)|refine kg' ?_|refine kG' ?_|refine kB' fun _=>?_|refine kA' fun _=>?_|refine kK' fun _=>?_|refine kU' ?_|((first|refine kR' ?_ ?_|refine kQ' ?_ ?_);all_goals(intro hc;try simp only[hcs]at hc;try(exfalso;first|contradiction|omega))))
  apply LR.call
  · exact rfl
  intro w1 h1
  refine (h5 a c l w1 (h1.rd_of (by (repeat (first | exact mH _ _ | apply mT)))) (fun x hx => ⟨h1.oldRd (hR x hx).hr, (hR x hx).hz, (hR x hx).hm, (hR x hx).hb⟩) hm).mono ?_
  rintro v w2 ⟨bw, bm, es, ar, hi, bv', av, cv, fs, rfl, hW, hfs, hn⟩
  refine LR.back ((h1.got hn (both_dep (vO_dep _ _ _ _ _) (wO_dep _ _ _ _ _))).part (vO_dep _ _ _ _ _) (wO_dep _ _ _ _ _)) ?_
  clear hn h1
  have hel := hW.len
  have hfl : fs.length = es.length := by have := congrArg List.length hfs; simpa [dats] using this
  have hokf : WOk (dats fs) := by rw [hfs]; exact hW.ok
  have harf : IsAru (dats fs) ar := by rw [hfs]; exact hW.aru
  repeat'(first|refine kv' ?_|apply jJ|refine jE' ?_|refine jp' ?_|(apply jc;kernel_rfl)|refine kg' ?_|refine kG' ?_|refine kB' fun _=>?_|refine kA' fun _=>?_|refine kK' fun _=>?_|refine kU' ?_|((first|refine kR' ?_ ?_|refine kQ' ?_ ?_);all_goals(intro hc;try simp only[hcs]at hc;try(exfalso;first|contradiction|omega))))
  apply CW.loop [6, 9, 10, 11, 12, 13, 14, 15, 16, 17, 18, 24, 25, 26, 27, 28, 29, 30, 31, 32, 33, 34, 35, 36, 37, 38, 39, 40, 41, 42, 43, 44, 45, 46, 47, 48, 49, 50, 51, 52, 53, 54, 55, 56, 57, 58, 59, 60, 61, 62, 63, 64, 65, 66, 67, 68, 69, 70, 71, 72, 73, 74, 75, 76, 77, 78, 79, 80, 81, 82, 83, 84, 85, 86, 87, 88, 89, 90, 91, 92, 93, 94, 95, 96, 97, 98, 99, 100, 101, 102, 103, 104, 105, 106, 107, 108, 109, 110, 111, 112] (fun s : Nat => s ≤ ss.length) (fun s => [(9, .int .i64 (s : Int))])
    (fun s => St w NoF [vO bv' av cv fs hi, wO bw bm es ar hi, .own b4 (.cells [Value.int .i64 R1, .int .i64 R2].toArray 38 (0, 0)), rdA az (ss.flatMap MsA.row)]) (fun s => ss.length - s)
  · intro w' hw'
    exact ⟨0, by simp, ⟨rfl, trivial⟩, hw'.sub (by (repeat (first | exact List.Sublist.refl _ | apply List.Sublist.cons_cons | apply List.Sublist.cons)))⟩
  intro i g1 hi1
  by_cases hlt : i < ss.length ∧ i < 60
  · obtain ⟨hlt, h60⟩ := hlt
    obtain ⟨bg, og, rfl⟩ := hs.form (rows_ne MsA.row_len (by omega) hlt)
    obtain ⟨x, hx⟩ : ∃ x, x = ss[i] := ⟨_, rfl⟩
    have hxS := hSs x (by rw [hx]; exact List.getElem_mem hlt)
    repeat'(first|refine kv' ?_|apply jJ|refine jE' ?_|refine jp' ?_|(apply jc;kernel_rfl)|refine kg' ?_|refine kG' ?_|refine kB' fun _=>?_|refine kA' fun _=>?_|refine kK' fun _=>?_|refine kU' ?_|(apply idxX;(iterate 2 exact rfl);(iterate 2(first|omega|(dsimp only;omega)));exact rfl)|(apply LR.ev; (· apply Ev.load_agg_at (cs := x.row); (· exact rfl); (· exact rfl); (· intro w' hw'; rw [hx]; exact rd_row MsA.row_len (hw'.rd_of (by (repeat (first | exact mH _ _ | apply mT)))) hlt (by simp))); (· exact rfl))|((first|refine kR' ?_ ?_|refine kQ' ?_ ?_);all_goals(intro hc;try simp only[hcs]at hc;try(exfalso;first|contradiction|omega))))
    apply LR.call
    · exact rfl
    intro w1 h1
    refine CallsTo.mono (show CallsTo Tryz.prog 31 [x.m.val x.a x.c] w1 _ from c14 x.m x.a x.c w1 (h1.oldRd hxS.hr) hxS.hz hxS.hm) ?_
    rintro v w2 ⟨ai, ci, rfl, hn⟩
    refine LR.back (h1.newSl hn) ?_
    clear hn h1
    repeat'(first|(apply kA; (· exact rfl); intro b10)|refine kv' ?_|apply jJ|refine jE' ?_|refine jp' ?_|refine kg' ?_|refine kG' ?_|refine kB' fun _=>?_|refine kA' fun _=>?_|refine kK' fun _=>?_|refine kU' ?_|(apply kq; (· exact rfl); (· intro w1 h1; have hb1 : (MsA.body ⟨x.m, ai, ci⟩).holds w1 := h1.holds (osl (.slice ai x.m.body.length ci) 5 1 x.m.body.length (bv x.m.body)) (by (repeat (first | exact mH _ _ | apply mT))); have hq := CallsTo.q (k15 bw R1 R2 x.m ai ci w1 (ownsRow_rd hb1) (body_nzM hb1) hxS.hm hxS.hb hxS.hi) h1; exact hq))|((first|refine kR' ?_ ?_|refine kQ' ?_ ?_);all_goals(intro hc;try simp only[hcs]at hc;try(exfalso;first|contradiction|omega))))
    apply CW.reg_heldC
    all_goals (
      apply DW.quiet [0, 1, 2, 3, 4, 5]
      · decide +kernel
      · first | exact fun _ h => h | exact fun _ h => St.sub h (by repeat (first | exact List.Sublist.refl _ | apply List.Sublist.cons_cons | apply List.Sublist.cons))
      repeat'(first|refine yv' ?_|(apply QL.ev; (· exact rfl); (· first | (apply Ev.indexAddr; (· exact rfl); (· exact rfl); (· omega); (· omega)) | (apply Ev.load_agg_at (cs := x.row); (· exact rfl); (· exact rfl); (· intro w' hw'; rw [hx]; refine rd_row MsA.row_len (hw'.rd_of (by (repeat (first | exact mH _ _ | apply mT)))) hlt ?_; simp; done))); (· exact rfl))|(apply QL.evg; (iterate 3 exact rfl); (· first | (apply Ev.indexAddr; (· exact rfl); (· exact rfl); (· omega); (· omega)) | (apply Ev.load_agg_at (cs := x.row); (· exact rfl); (· exact rfl); (· intro w' hw'; rw [hx]; refine rd_row MsA.row_len (hw'.rd_of (by (repeat (first | exact mH _ _ | apply mT)))) hlt ?_; simp; done))); (· exact rfl))|refine uv' ?_|refine un' ?_|(refine us' ?_ ?_;all_goals(intro hc;try simp only[hcs]at hc;try(exfalso;first|contradiction|omega)))|apply QL.nil)
      all_goals (show DW _ _ _ _ _ _ _ _))
    all_goals (
      apply DW.loud 6
      · exact rfl
      · decide +kernel
      repeat'(first|refine kg' ?_|refine kG' ?_|apply kM|refine kv' ?_|refine kK' fun _=>?_|refine kU' ?_|refine kB' fun _=>?_|refine kA' fun _=>?_|(apply kq; (· exact rfl); (· intro w1 h1; have hq := CallsTo.q (k35 bv' R1 R2 x.m x.a x.c w1 (h1.oldRd hxS.hr) hxS.hz hxS.hm hxS.hb hxS.hi) h1; exact hq)))
      all_goals (refine At.stage_same (fun _ h => St.sub h (by repeat (first | exact List.Sublist.refl _ | apply List.Sublist.cons_cons | apply List.Sublist.cons))) ?_))
    all_goals (
      apply DW.quiet [7, 8, 9, 10, 11]
      · decide +kernel
      · first | exact fun _ h => h | exact fun _ h => St.sub h (by repeat (first | exact List.Sublist.refl _ | apply List.Sublist.cons_cons | apply List.Sublist.cons))
      repeat'(first|refine yv' ?_|(apply QL.ev; (· exact rfl); (· first | (apply Ev.indexAddr; (· exact rfl); (· exact rfl); (· omega); (· omega)) | (apply Ev.load_agg_at (cs := x.row); (· exact rfl); (· exact rfl); (· intro w' hw'; rw [hx]; refine rd_row MsA.row_len (hw'.rd_of (by (repeat (first | exact mH _ _ | apply mT)))) hlt ?_; simp; done))); (· exact rfl))|(apply QL.evg; (iterate 3 exact rfl); (· first | (apply Ev.indexAddr; (· exact rfl); (· exact rfl); (· omega); (· omega)) | (apply Ev.load_agg_at (cs := x.row); (· exact rfl); (· exact rfl); (· intro w' hw'; rw [hx]; refine rd_row MsA.row_len (hw'.rd_of (by (repeat (first | exact mH _ _ | apply mT)))) hlt ?_; simp; done))); (· exact rfl))|refine uv' ?_|refine un' ?_|(refine us' ?_ ?_;all_goals(intro hc;try simp only[hcs]at hc;try(exfalso;first|contradiction|omega)))|apply QL.nil)
      all_goals (show DW _ _ _ _ _ _ _ _))
    all_goals (first | (apply DW.done_thn; (· decide +kernel)) | (apply DW.done; (· decide +kernel)))
    repeat'(first|refine kv' ?_|apply jJ|refine jE' ?_|refine jp' ?_|refine kg' ?_|refine kG' ?_|refine kB' fun _=>?_|refine kA' fun _=>?_|refine kK' fun _=>?_|refine kU' ?_|((first|refine kR' ?_ ?_|refine kQ' ?_ ?_);all_goals(intro hc;try simp only[hcs]at hc;try(exfalso;first|contradiction|omega))))
    apply CW.reg_heldC
    all_goals (
      apply DW.quiet [0, 1, 2, 3, 4, 5, 6, 7, 8, 9, 11]
      · decide +kernel
      · first | exact fun _ h => h | exact fun _ h => St.sub h (by repeat (first | exact List.Sublist.refl _ | apply List.Sublist.cons_cons | apply List.Sublist.cons))
      repeat'(first|refine yv' ?_|(apply QL.ev; (· exact rfl); (· first | (apply Ev.indexAddr; (· exact rfl); (· exact rfl); (· omega); (· omega)) | (apply Ev.load_agg_at (cs := x.row); (· exact rfl); (· exact rfl); (· intro w' hw'; rw [hx]; refine rd_row MsA.row_len (hw'.rd_of (by (repeat (first | exact mH _ _ | apply mT)))) hlt ?_; simp; done))); (· exact rfl))|(apply QL.evg; (iterate 3 exact rfl); (· first | (apply Ev.indexAddr; (· exact rfl); (· exact rfl); (· omega); (· omega)) | (apply Ev.load_agg_at (cs := x.row); (· exact rfl); (· exact rfl); (· intro w' hw'; rw [hx]; refine rd_row MsA.row_len (hw'.rd_of (by (repeat (first | exact mH _ _ | apply mT)))) hlt ?_; simp; done))); (· exact rfl))|refine uv' ?_|refine un' ?_|(refine us' ?_ ?_;all_goals(intro hc;try simp only[hcs]at hc;try(exfalso;first|contradiction|omega)))|apply QL.nil)
      all_goals (show DW _ _ _ _ _ _ _ _))
    all_goals (
      apply DW.loud 10
      · exact rfl
      · decide +kernel
      repeat'(first|refine kg' ?_|refine kG' ?_|apply kM|refine kv' ?_|refine kK' fun _=>?_|refine kU' ?_|refine kB' fun _=>?_|refine kA' fun _=>?_|(apply kq; (· exact rfl); (· intro w1 h1; first | exact CallsTo.q (show CallsTo Tryz.prog 36 _ w1 _ from t35 bw bm es ar hi w1 (h1.holds _ (by (repeat (first | exact mH _ _ | apply mT))))) h1 | exact CallsTo.q (show CallsTo Tryz.prog 37 _ w1 _ from t36 bv' av cv fs hi ar w1 (h1.holds _ (by (repeat (first | exact mH _ _ | apply mT)))) hokf (by omega) harf) h1 | exact CallsTo.q (show CallsTo Tryz.prog 33 _ w1 _ from t37 bw bm es ar hi w1 (h1.holds _ (by (repeat (first | exact mH _ _ | apply mT))))) h1 | exact CallsTo.q (show CallsTo Tryz.prog 38 _ w1 _ from t38 bv' av cv fs hi w1 (h1.holds _ (by (repeat (first | exact mH _ _ | apply mT))))) h1 | (have hb1 : (MsA.body ⟨x.m, ai, ci⟩).holds w1 := h1.holds (osl (.slice ai x.m.body.length ci) 5 1 x.m.body.length (bv x.m.body)) (by (repeat (first | exact mH _ _ | apply mT))); have hq := CallsTo.q (c20 x.m x.m ai x.a ci x.c w1 (ownsRow_rd hb1) (h1.oldRd hxS.hr) hxS.hm) h1; rw [sameB_self] at hq; show CallsTo Tryz.prog 13 [x.m.val ai ci, x.m.val x.a x.c] w1 _; exact hq))))
      all_goals (refine At.stage_same (fun _ h => St.sub h (by repeat (first | exact List.Sublist.refl _ | apply List.Sublist.cons_cons | apply List.Sublist.cons))) ?_))
    all_goals (
      apply DW.loud 12
      · exact rfl
      · decide +kernel
      repeat'(first|refine kg' ?_|refine kG' ?_|apply kM|refine kv' ?_|refine kK' fun _=>?_|refine kU' ?_|refine kB' fun _=>?_|refine kA' fun _=>?_|(apply kq; (· exact rfl); (· intro w1 h1; first | exact CallsTo.q (show CallsTo Tryz.prog 36 _ w1 _ from t35 bw bm es ar hi w1 (h1.holds _ (by (repeat (first | exact mH _ _ | apply mT))))) h1 | exact CallsTo.q (show CallsTo Tryz.prog 37 _ w1 _ from t36 bv' av cv fs hi ar w1 (h1.holds _ (by (repeat (first | exact mH _ _ | apply mT)))) hokf (by omega) harf) h1 | exact CallsTo.q (show CallsTo Tryz.prog 33 _ w1 _ from t37 bw bm es ar hi w1 (h1.holds _ (by (repeat (first | exact mH _ _ | apply mT))))) h1 | exact CallsTo.q (show CallsTo Tryz.prog 38 _ w1 _ from t38 bv' av cv fs hi w1 (h1.holds _ (by (repeat (first | exact mH _ _ | apply mT))))) h1 | (have hb1 : (MsA.body ⟨x.m, ai, ci⟩).holds w1 := h1.holds (osl (.slice ai x.m.body.length ci) 5 1 x.m.body.length (bv x.m.body)) (by (repeat (first | exact mH _ _ | apply mT))); have hq := CallsTo.q (c20 x.m x.m ai x.a ci x.c w1 (ownsRow_rd hb1) (h1.oldRd hxS.hr) hxS.hm) h1; rw [sameB_self] at hq; show CallsTo Tryz.prog 13 [x.m.val ai ci, x.m.val x.a x.c] w1 _; exact hq))))
      all_goals (refine At.stage_same (fun _ h => St.sub h (by repeat (first | exact List.Sublist.refl _ | apply List.Sublist.cons_cons | apply List.Sublist.cons))) ?_))
    all_goals (
      apply DW.quiet [13, 14, 15, 16, 18]
      · decide +kernel
      · first | exact fun _ h => h | exact fun _ h => St.sub h (by repeat (first | exact List.Sublist.refl _ | apply List.Sublist.cons_cons | apply List.Sublist.cons))
      repeat'(first|refine yv' ?_|(apply QL.ev; (· exact rfl); (· first | (apply Ev.indexAddr; (· exact rfl); (· exact rfl); (· omega); (· omega)) | (apply Ev.load_agg_at (cs := x.row); (· exact rfl); (· exact rfl); (· intro w' hw'; rw [hx]; refine rd_row MsA.row_len (hw'.rd_of (by (repeat (first | exact mH _ _ | apply mT)))) hlt ?_; simp; done))); (· exact rfl))|(apply QL.evg; (iterate 3 exact rfl); (· first | (apply Ev.indexAddr; (· exact rfl); (· exact rfl); (· omega); (· omega)) | (apply Ev.load_agg_at (cs := x.row); (· exact rfl); (· exact rfl); (· intro w' hw'; rw [hx]; refine rd_row MsA.row_len (hw'.rd_of (by (repeat (first | exact mH _ _ | apply mT)))) hlt ?_; simp; done))); (· exact rfl))|refine uv' ?_|refine un' ?_|(refine us' ?_ ?_;all_goals(intro hc;try simp only[hcs]at hc;try(exfalso;first|contradiction|omega)))|apply QL.nil)
      all_goals (show DW _ _ _ _ _ _ _ _))
    all_goals (
      apply DW.loud 17
      · exact rfl
      · decide +kernel
      repeat'(first|refine kg' ?_|refine kG' ?_|apply kM|refine kv' ?_|refine kK' fun _=>?_|refine kU' ?_|refine kB' fun _=>?_|refine kA' fun _=>?_|(apply kq; (· exact rfl); (· intro w1 h1; first | exact CallsTo.q (show CallsTo Tryz.prog 36 _ w1 _ from t35 bw bm es ar hi w1 (h1.holds _ (by (repeat (first | exact mH _ _ | apply mT))))) h1 | exact CallsTo.q (show CallsTo Tryz.prog 37 _ w1 _ from t36 bv' av cv fs hi ar w1 (h1.holds _ (by (repeat (first | exact mH _ _ | apply mT)))) hokf (by omega) harf) h1 | exact CallsTo.q (show CallsTo Tryz.prog 33 _ w1 _ from t37 bw bm es ar hi w1 (h1.holds _ (by (repeat (first | exact mH _ _ | apply mT))))) h1 | exact CallsTo.q (show CallsTo Tryz.prog 38 _ w1 _ from t38 bv' av cv fs hi w1 (h1.holds _ (by (repeat (first | exact mH _ _ | apply mT))))) h1 | (have hb1 : (MsA.body ⟨x.m, ai, ci⟩).holds w1 := h1.holds (osl (.slice ai x.m.body.length ci) 5 1 x.m.body.length (bv x.m.body)) (by (repeat (first | exact mH _ _ | apply mT))); have hq := CallsTo.q (c20 x.m x.m ai x.a ci x.c w1 (ownsRow_rd hb1) (h1.oldRd hxS.hr) hxS.hm) h1; rw [sameB_self] at hq; show CallsTo Tryz.prog 13 [x.m.val ai ci, x.m.val x.a x.c] w1 _; exact hq))))
      all_goals (refine At.stage_same (fun _ h => St.sub h (by repeat (first | exact List.Sublist.refl _ | apply List.Sublist.cons_cons | apply List.Sublist.cons))) ?_))
    all_goals (
      apply DW.loud 19
      · exact rfl
      · decide +kernel
      repeat'(first|refine kg' ?_|refine kG' ?_|apply kM|refine kv' ?_|refine kK' fun _=>?_|refine kU' ?_|refine kB' fun _=>?_|refine kA' fun _=>?_|(apply kq; (· exact rfl); (· intro w1 h1; first | exact CallsTo.q (show CallsTo Tryz.prog 36 _ w1 _ from t35 bw bm es ar hi w1 (h1.holds _ (by (repeat (first | exact mH _ _ | apply mT))))) h1 | exact CallsTo.q (show CallsTo Tryz.prog 37 _ w1 _ from t36 bv' av cv fs hi ar w1 (h1.holds _ (by (repeat (first | exact mH _ _ | apply mT)))) hokf (by omega) harf) h1 | exact CallsTo.q (show CallsTo Tryz.prog 33 _ w1 _ from t37 bw bm es ar hi w1 (h1.holds _ (by (repeat (first | exact mH _ _ | apply mT))))) h1 | exact CallsTo.q (show CallsTo Tryz.prog 38 _ w1 _ from t38 bv' av cv fs hi w1 (h1.holds _ (by (repeat (first | exact mH _ _ | apply mT))))) h1 | (have hb1 : (MsA.body ⟨x.m, ai, ci⟩).holds w1 := h1.holds (osl (.slice ai x.m.body.length ci) 5 1 x.m.body.length (bv x.m.body)) (by (repeat (first | exact mH _ _ | apply mT))); have hq := CallsTo.q (c20 x.m x.m ai x.a ci x.c w1 (ownsRow_rd hb1) (h1.oldRd hxS.hr) hxS.hm) h1; rw [sameB_self] at hq; show CallsTo Tryz.prog 13 [x.m.val ai ci, x.m.val x.a x.c] w1 _; exact hq))))
      all_goals (refine At.stage_same (fun _ h => St.sub h (by repeat (first | exact List.Sublist.refl _ | apply List.Sublist.cons_cons | apply List.Sublist.cons))) ?_))
    all_goals (
      apply DW.quiet [20, 21, 22, 23, 24, 25, 26, 27]
      · decide +kernel
      · first | exact fun _ h => h | exact fun _ h => St.sub h (by repeat (first | exact List.Sublist.refl _ | apply List.Sublist.cons_cons | apply List.Sublist.cons))
      repeat'(first|refine yv' ?_|(apply QL.ev; (· exact rfl); (· first | (apply Ev.indexAddr; (· exact rfl); (· exact rfl); (· omega); (· omega)) | (apply Ev.load_agg_at (cs := x.row); (· exact rfl); (· exact rfl); (· intro w' hw'; rw [hx]; refine rd_row MsA.row_len (hw'.rd_of (by (repeat (first | exact mH _ _ | apply mT)))) hlt ?_; simp; done))); (· exact rfl))|(apply QL.evg; (iterate 3 exact rfl); (· first | (apply Ev.indexAddr; (· exact rfl); (· exact rfl); (· omega); (· omega)) | (apply Ev.load_agg_at (cs := x.row); (· exact rfl); (· exact rfl); (· intro w' hw'; rw [hx]; refine rd_row MsA.row_len (hw'.rd_of (by (repeat (first | exact mH _ _ | apply mT)))) hlt ?_; simp; done))); (· exact rfl))|refine uv' ?_|refine un' ?_|(refine us' ?_ ?_;all_goals(intro hc;try simp only[hcs]at hc;try(exfalso;first|contradiction|omega)))|apply QL.nil)
      all_goals (show DW _ _ _ _ _ _ _ _))
    all_goals (
      apply DW.loud 28
      · exact rfl
      · decide +kernel
      repeat'(first|refine kg' ?_|refine kG' ?_|apply kM|refine kv' ?_|refine kK' fun _=>?_|refine kU' ?_|refine kB' fun _=>?_|refine kA' fun _=>?_|(apply kq; (· exact rfl); (· intro w1 h1; first | exact CallsTo.q (show CallsTo Tryz.prog 36 _ w1 _ from t35 bw bm es ar hi w1 (h1.holds _ (by (repeat (first | exact mH _ _ | apply mT))))) h1 | exact CallsTo.q (show CallsTo Tryz.prog 37 _ w1 _ from t36 bv' av cv fs hi ar w1 (h1.holds _ (by (repeat (first | exact mH _ _ | apply mT)))) hokf (by omega) harf) h1 | exact CallsTo.q (show CallsTo Tryz.prog 33 _ w1 _ from t37 bw bm es ar hi w1 (h1.holds _ (by (repeat (first | exact mH _ _ | apply mT))))) h1 | exact CallsTo.q (show CallsTo Tryz.prog 38 _ w1 _ from t38 bv' av cv fs hi w1 (h1.holds _ (by (repeat (first | exact mH _ _ | apply mT))))) h1 | (have hb1 : (MsA.body ⟨x.m, ai, ci⟩).holds w1 := h1.holds (osl (.slice ai x.m.body.length ci) 5 1 x.m.body.length (bv x.m.body)) (by (repeat (first | exact mH _ _ | apply mT))); have hq := CallsTo.q (c20 x.m x.m ai x.a ci x.c w1 (ownsRow_rd hb1) (h1.oldRd hxS.hr) hxS.hm) h1; rw [sameB_self] at hq; show CallsTo Tryz.prog 13 [x.m.val ai ci, x.m.val x.a x.c] w1 _; exact hq))))
      all_goals (refine At.stage_same (fun _ h => St.sub h (by repeat (first | exact List.Sublist.refl _ | apply List.Sublist.cons_cons | apply List.Sublist.cons))) ?_))
    all_goals (
      apply DW.quiet [29, 30]
      · decide +kernel
      · first | exact fun _ h => h | exact fun _ h => St.sub h (by repeat (first | exact List.Sublist.refl _ | apply List.Sublist.cons_cons | apply List.Sublist.cons))
      repeat'(first|refine yv' ?_|(apply QL.ev; (· exact rfl); (· first | (apply Ev.indexAddr; (· exact rfl); (· exact rfl); (· omega); (· omega)) | (apply Ev.load_agg_at (cs := x.row); (· exact rfl); (· exact rfl); (· intro w' hw'; rw [hx]; refine rd_row MsA.row_len (hw'.rd_of (by (repeat (first | exact mH _ _ | apply mT)))) hlt ?_; simp; done))); (· exact rfl))|(apply QL.evg; (iterate 3 exact rfl); (· first | (apply Ev.indexAddr; (· exact rfl); (· exact rfl); (· omega); (· omega)) | (apply Ev.load_agg_at (cs := x.row); (· exact rfl); (· exact rfl); (· intro w' hw'; rw [hx]; refine rd_row MsA.row_len (hw'.rd_of (by (repeat (first | exact mH _ _ | apply mT)))) hlt ?_; simp; done))); (· exact rfl))|refine uv' ?_|refine un' ?_|(refine us' ?_ ?_;all_goals(intro hc;try simp only[hcs]at hc;try(exfalso;first|contradiction|omega)))|apply QL.nil)
      all_goals (show DW _ _ _ _ _ _ _ _))
    all_goals (first | (apply DW.done_thn; (· decide +kernel)) | (apply DW.done; (· decide +kernel)))
    repeat'(first|refine kv' ?_|apply jJ|refine jE' ?_|refine jp' ?_|(apply jc;kernel_rfl)|refine kg' ?_|refine kG' ?_|refine kB' fun _=>?_|refine kA' fun _=>?_|refine kK' fun _=>?_|refine kU' ?_|(apply idxX;(iterate 2 exact rfl);(iterate 2(first|omega|(dsimp only;omega)));exact rfl)|(apply LR.ev; (· (apply Ev.load (v := .int .i64 x.m.kseq); (· exact rfl); (· intro w' hw'; refine row_cell MsA.row_len (hw'.rd_of (by (repeat (first | exact mH _ _ | apply mT)))) hlt 11 (by rw [← hx]; rfl) ?_; omega))); (· exact rfl))|((first|refine kR' ?_ ?_|refine kQ' ?_ ?_);all_goals(intro hc;try simp only[hcs]at hc;try(exfalso;first|contradiction|omega))))
    have hgl := getT_len hW.ok x.m.kseq
    apply LR.call
    · exact rfl
    intro w1 h1
    refine CallsTo.mono (show CallsTo Tryz.prog 26 [.pointer (some ⟨bw, 0, none⟩), .int .i64 x.m.kseq] w1 _ from t32 bw bm es ar hi x.m.kseq w1 (h1.holds _ (by (repeat (first | exact mH _ _ | apply mT)))) hW.ok) ?_
    rintro v w2 ⟨ap, cp, rfl, hn⟩
    refine LR.back (h1.newSl hn) ?_
    clear hn h1
    repeat'(first|refine kv' ?_|apply jJ|refine jE' ?_|refine jp' ?_|(apply jc;kernel_rfl)|refine kg' ?_|refine kG' ?_|refine kB' fun _=>?_|refine kA' fun _=>?_|refine kK' fun _=>?_|refine kU' ?_|(apply idxX;(iterate 2 exact rfl);(iterate 2(first|omega|(dsimp only;omega)));exact rfl)|(apply LR.ev; (· (apply Ev.load (v := .int .i64 x.m.kseq); (· exact rfl); (· intro w' hw'; refine row_cell MsA.row_len (hw'.rd_of (by (repeat (first | exact mH _ _ | apply mT)))) hlt 11 (by rw [← hx]; rfl) ?_; omega))); (· exact rfl))|((first|refine kR' ?_ ?_|refine kQ' ?_ ?_);all_goals(intro hc;try simp only[hcs]at hc;try(exfalso;first|contradiction|omega))))
    apply LR.call
    · exact rfl
    intro w1 h1
    have hh := t33 bv' av cv fs hi x.m.kseq w1 (h1.holds _ (by (repeat (first | exact mH _ _ | apply mT)))) hokf (by omega)
    rw [hfs] at hh
    refine CallsTo.mono (show CallsTo Tryz.prog 39 [.pointer (some ⟨bv', 0, none⟩), .int .i64 x.m.kseq] w1 _ from hh) ?_
    clear hh
    rintro v w2 ⟨aq, cq, rfl, hn⟩
    refine LR.back (h1.newSl hn) ?_
    clear hn h1
    obtain ⟨gd, hgd⟩ : ∃ gd, gd = getT (dats es) x.m.kseq := ⟨_, rfl⟩
    rw [← hgd] at hgl ⊢
    repeat'(first|refine kv' ?_|apply jJ|refine jE' ?_|refine jp' ?_|(apply jc;kernel_rfl)|refine kg' ?_|refine kG' ?_|refine kB' fun _=>?_|refine kA' fun _=>?_|refine kK' fun _=>?_|refine kU' ?_|(apply addX;(iterate 2 exact rfl);(iterate 2(first|omega|(dsimp only;omega)));exact rfl)|(apply kq; (· exact rfl); (· intro w1 h1; have hb1 := h1.holds (osl (.slice ap gd.msg.body.length cp) 5 1 gd.msg.body.length (bv gd.msg.body)) (by (repeat (first | exact mH _ _ | apply mT))); have hb2 := h1.holds (osl (.slice aq gd.msg.body.length cq) 5 1 gd.msg.body.length (bv gd.msg.body)) (by (repeat (first | exact mH _ _ | apply mT))); have hq := CallsTo.q (c84 gd gd ap aq cp cq w1 (ownsRow_rd hb1) (ownsRow_rd hb2) (by omega)) h1; rw [sameD_self] at hq; show CallsTo Tryz.prog 40 [gd.val ap cp, gd.val aq cq] w1 _; exact hq))|((first|refine kR' ?_ ?_|refine kQ' ?_ ?_);all_goals(intro hc;try simp only[hcs]at hc;try(exfalso;first|contradiction|omega))))
    refine At.again (i + 1) (by omega) ?_ ⟨rfl, trivial⟩ (fun w' hw' => hw'.sub (by (repeat (first | exact List.Sublist.refl _ | apply List.Sublist.cons_cons | apply List.Sublist.cons)))) (by omega)
    (repeat (first | exact Out.refl _ _ | exact Out.mix | (apply Out.upd; (· exact rfl)) | (apply Out.updL; (· exact rfl)) | (apply Out.mixs; (· exact rfl))))
  · rcases Nat.lt_or_ge i ss.length with h60 | h60
    all_goals (
      repeat'(first|refine kv' ?_|apply jJ|refine jE' ?_|refine jp' ?_|(apply jc;kernel_rfl)|refine kg' ?_|refine kG' ?_|refine kB' fun _=>?_|refine kA' fun _=>?_|refine kK' fun _=>?_|refine kU' ?_|(apply kq; (· exact rfl); (· intro w1 h1; exact CallsTo.q (g35 w1) h1))|((first|refine kR' ?_ ?_|refine kQ' ?_ ?_);all_goals(intro hc;try simp only[hcs]at hc;try(exfalso;first|contradiction|omega))))
      (apply ret1; (· exact rfl); intro w' hS)
      exact ⟨rfl, hS.toKeep⟩)
end Go.Proofs.YtgblmkpfkcibiaaGreat

namespace Go.Proofs.YtgblmkpfkcibiaaGreat
open Go.Hb
attribute [local irreducible] LR CW At Ev thn blk finK noG again CallsTo DW QL dnext TW DP
set_option linter.unusedSimpArgs false
set_option linter.unusedVariables false
set_option maxRecDepth 100000

def badD : Dat := { oneR 2 1 3 with msg := { (oneR 2 1 3).msg with origin := 0 } }
def againD : Dat := { oneR 2 1 4 with msg := { (oneR 2 1 4).msg with kind := 5 } }
def wantM : Msg := ⟨3, 1, 0, 0, 0, 0, 0, false, 0, 0, 0, 0, []⟩
def oldZ : Msg := ⟨5, 0, 0, 0, 0, 0, 0, false, 0, 0, 0, 0, []⟩
theorem in_zero : inner zeroMsg = (zeroDat, 2) := by unfold inner; rw [if_neg (by decide +kernel)]
theorem in_want : inner wantM = (zeroDat, 2) := by unfold inner; rw [if_neg (by decide +kernel)]
theorem in_oldZ : inner oldZ = (zeroDat, 2) := by unfold inner; rw [if_neg (by decide +kernel)]
theorem byt1 {n : Int} (h : 0 ≤ IntKind.wrap .u8 n ∧ IntKind.wrap .u8 n < 256) : Byt [IntKind.wrap .u8 n] := fun x hx => by
  rw [List.mem_singleton] at hx; rw [hx]; exact h
theorem dab {w : World} {d : Dat} {a : Option Addr} {c : Nat} {n : Int} (hd : d.msg.body = [IntKind.wrap .u8 n]) (hn : 0 ≤ IntKind.wrap .u8 n ∧ IntKind.wrap .u8 n < 256) (hb : (osl (.slice a 1 c) 5 1 1 (bv d.msg.body)).holds w) : DaB w ⟨d, a, c⟩ := by
  have hl : d.msg.body.length = 1 := by rw [hd]; rfl
  have hb2 : (DaA.body ⟨d, a, c⟩).holds w := by
    show (osl (.slice a d.msg.body.length c) 5 1 d.msg.body.length (bv d.msg.body)).holds w
    rw [hl]; exact hb
  exact ⟨ownsRow_rd hb2, body_nz hb2, by show d.msg.body.length ≤ _; omega, by show Byt d.msg.body; rw [hd]; exact byt1 hn⟩
theorem dab1 {w : World} {x : DaA} (h : DaB w x) : ∀ y ∈ [x], DaB w y := fun y hy => by
  rw [List.mem_singleton] at hy; rw [hy]; exact h
theorem dab5 {w : World} {x1 x2 x3 x4 x5 : DaA} (h1 : DaB w x1) (h2 : DaB w x2) (h3 : DaB w x3) (h4 : DaB w x4) (h5 : DaB w x5) : ∀ y ∈ [x1, x2, x3, x4, x5], DaB w y := fun y hy => by
  simp only [List.mem_cons, List.not_mem_nil, or_false] at hy
  rcases hy with h | h | h | h | h <;> rw [h] <;> assumption
theorem twoB (w : World) : ∀ x ∈ [(⟨zeroMsg, none, 0⟩ : MsA), ⟨oldZ, none, 0⟩], MsB w x := fun x hx => by
  simp only [List.mem_cons, List.not_mem_nil, or_false] at hx
  rcases hx with h | h <;> rw [h]
  · exact ⟨Rd.nil _ _, fun _ => rfl, Nat.zero_le _, (fun x hx => by cases hx), in_zero⟩
  · exact ⟨Rd.nil _ _, fun _ => rfl, Nat.zero_le _, (fun x hx => by cases hx), in_oldZ⟩
def clsO (o : Option Nat) : List Asrt := match o with
  | none => []
  | some b => [.own b (.cells [Value.bool false, .slice none 0 0].toArray 53 (0, 0))]
set_option maxHeartbeats 8000000 in
theorem k4 (w : World) : CallsTo Tryz.prog 4 [] w fun v w' => v = .bool true ∧ Grew w w' := by
  refine go_in (n := 108) (St.refl _ NoF) Tryz.func4 rfl rfl ?_
  repeat'(first|refine kv' ?_|apply jJ|refine jE' ?_|refine jp' ?_|(apply jc;kernel_rfl)|refine kg' ?_|refine kG' ?_|refine kB' fun _=>?_|refine kA' fun _=>?_|refine kK' fun _=>?_|refine kU' ?_|((first|refine kR' ?_ ?_|refine kQ' ?_ ?_);all_goals(intro hc;try simp only[hcs]at hc;try(exfalso;first|contradiction|omega))))
  apply CW.loop [0, 1, 2, 3, 4, 14, 15, 16, 17, 18, 19, 20, 21, 22, 23, 24, 25, 26, 27, 28, 29, 30, 31, 32, 33, 34, 35, 36] (fun s : Nat × Option Nat => s.1 ≤ 2) (fun s => [(1, .pointer (s.2.map fun b => ⟨b, 0, none⟩)), (2, .int .i64 (s.1 : Int))]) (fun s => St w NoF (clsO s.2)) (fun s => 2 - s.1)
  · exact fun w' hw' => ⟨(0, none), by simp, ⟨rfl, rfl, trivial⟩, hw'⟩
  rintro ⟨i, o⟩ g1 hi
  simp only at hi ⊢
  by_cases hlt : i < 2
  · cases o with
    | none =>
      show CW _ _ _ _ _ (St w NoF [])
      repeat'(first|(apply kB;(iterate 2 exact rfl);intro b)|refine kv' ?_|apply jJ|refine jE' ?_|refine jp' ?_|(apply jc;kernel_rfl)|refine kg' ?_|refine kG' ?_|refine kB' fun _=>?_|refine kA' fun _=>?_|refine kK' fun _=>?_|refine kU' ?_|(apply kq; (· exact rfl); (· intro w1 h1; first | exact CallsTo.q (k11 none w1 (.inl rfl)) h1 | exact CallsTo.q (k8 none w1 (.inl rfl)) h1))|(apply addX;(iterate 2 exact rfl);(iterate 2(first|omega|(dsimp only;omega)));exact rfl)|((first|refine kR' ?_ ?_|refine kQ' ?_ ?_);all_goals(intro hc;try simp only[hcs]at hc;try(exfalso;first|contradiction|omega))))
      refine At.again ((i + 1, some b) : Nat × Option Nat) (by simp only; omega) ?_ ⟨rfl, rfl, trivial⟩ (fun w' hw' => St.sub hw' (by simp only [clsO]; (repeat (first | exact List.Sublist.refl _ | apply List.Sublist.cons_cons | apply List.Sublist.cons)))) (by simp only; omega)
      (repeat (first | exact Out.refl _ _ | exact Out.mix | (apply Out.upd; (· exact rfl)) | (apply Out.updL; (· exact rfl)) | (apply Out.mixs; (· exact rfl))))
    | some b0 =>
      show CW _ _ _ _ _ (St w NoF [.own b0 (.cells [Value.bool false, .slice none 0 0].toArray 53 (0, 0))])
      repeat'(first|(apply kB;(iterate 2 exact rfl);intro b)|refine kv' ?_|apply jJ|refine jE' ?_|refine jp' ?_|(apply jc;kernel_rfl)|refine kg' ?_|refine kG' ?_|refine kB' fun _=>?_|refine kA' fun _=>?_|refine kK' fun _=>?_|refine kU' ?_|(apply kq; (· exact rfl); (· intro w1 h1; first | exact CallsTo.q (k11 (some ⟨b0, 0, none⟩) w1 (.inr ⟨b0, rfl, h1.rd_of_blk (by (repeat (first | exact mH _ _ | apply mT)))⟩)) h1 | exact CallsTo.q (k8 (some ⟨b0, 0, none⟩) w1 (.inr ⟨b0, rfl, h1.rd_of_blk (by (repeat (first | exact mH _ _ | apply mT)))⟩)) h1))|(apply addX;(iterate 2 exact rfl);(iterate 2(first|omega|(dsimp only;omega)));exact rfl)|((first|refine kR' ?_ ?_|refine kQ' ?_ ?_);all_goals(intro hc;try simp only[hcs]at hc;try(exfalso;first|contradiction|omega))))
      refine At.again ((i + 1, some b) : Nat × Option Nat) (by simp only; omega) ?_ ⟨rfl, rfl, trivial⟩ (fun w' hw' => St.sub hw' (by simp only [clsO]; (repeat (first | exact List.Sublist.refl _ | apply List.Sublist.cons_cons | apply List.Sublist.cons)))) (by simp only; omega)
      (repeat (first | exact Out.refl _ _ | exact Out.mix | (apply Out.upd; (· exact rfl)) | (apply Out.updL; (· exact rfl)) | (apply Out.mixs; (· exact rfl))))
  · refine CW.sub (D := St w NoF []) ?_ (fun u hu => hu.sub (List.nil_sublist _))
    repeat'(first|refine kv' ?_|apply jJ|refine jE' ?_|refine jp' ?_|(apply jc;kernel_rfl)|refine kg' ?_|refine kG' ?_|refine kB' fun _=>?_|refine kA' fun _=>?_|refine kK' fun _=>?_|refine kU' ?_|(apply kq; (· exact rfl); (· intro w1 h1; first | exact CallsTo.q (k6 0 w1) h1 | exact CallsTo.q (g43 w1) h1 | exact CallsTo.q (show CallsTo Tryz.prog 15 [.pointer none, .agg [.int .i64 2, .int .i64 1].toArray, zeroMsg.val none 0] w1 _ from k15n 2 1 zeroMsg none 0 w1) h1))|((first|refine kR' ?_ ?_|refine kQ' ?_ ?_);all_goals(intro hc;try simp only[hcs]at hc;try(exfalso;first|contradiction|omega))))
    apply LR.call
    · exact rfl
    intro w1 h1
    refine CallsTo.mono (show CallsTo Tryz.prog 17 [] w1 _ from t24 w1) ?_
    rintro v w2 ⟨bw, bm, rfl, hn⟩
    refine LR.back (h1.got hn (wO_dep _ _ _ _ _)) ?_
    clear hn h1
    repeat'(first|refine kv' ?_|apply jJ|refine jE' ?_|refine jp' ?_|(apply jc;kernel_rfl)|refine kg' ?_|refine kG' ?_|refine kB' fun _=>?_|refine kA' fun _=>?_|refine kK' fun _=>?_|refine kU' ?_|(apply kq; (· exact rfl); (· intro w1 h1; first | exact CallsTo.q (g43 w1) h1 | exact CallsTo.q (show CallsTo Tryz.prog 15 [.pointer (some ⟨bw, 0, none⟩), .agg [.int .i64 2, .int .i64 1].toArray, wantM.val none 0] w1 _ from k15 bw 2 1 wantM none 0 w1 (Rd.nil _ _) (fun _ => rfl) (Nat.zero_le _) (fun x hx => by cases hx) in_want) h1))|((first|refine kR' ?_ ?_|refine kQ' ?_ ?_);all_goals(intro hc;try simp only[hcs]at hc;try(exfalso;first|contradiction|omega))))
    apply LR.call
    · exact rfl
    intro w1 h1
    refine (show CallsTo Tryz.prog 18 [.int .i64 3] w1 _ from g38 3 (by omega) (by omega) w1).mono ?_
    rintro v w2 ⟨a3, c3, rfl, hn⟩
    refine LR.back (h1.newSl hn) ?_
    clear hn h1
    repeat'(first|(apply kA; (· exact rfl); intro b12)|refine kv' ?_|apply jJ|refine jE' ?_|refine jp' ?_|(apply jc;kernel_rfl)|refine kg' ?_|refine kG' ?_|refine kB' fun _=>?_|refine kA' fun _=>?_|refine kK' fun _=>?_|refine kU' ?_|((first|refine kR' ?_ ?_|refine kQ' ?_ ?_);all_goals(intro hc;try simp only[hcs]at hc;try(exfalso;first|contradiction|omega))))
    apply LR.call
    · exact rfl
    intro w1 h1
    refine (show CallsTo Tryz.prog 18 [.int .i64 4] w1 _ from g38 4 (by omega) (by omega) w1).mono ?_
    rintro v w2 ⟨a4, c4, rfl, hn⟩
    refine LR.back (h1.newSl hn) ?_
    clear hn h1
    repeat'(first|(apply kA; (· exact rfl); intro b13)|refine kv' ?_|apply jJ|refine jE' ?_|refine jp' ?_|refine kg' ?_|refine kG' ?_|refine kB' fun _=>?_|refine kA' fun _=>?_|refine kK' fun _=>?_|refine kU' ?_|((first|refine kR' ?_ ?_|refine kQ' ?_ ?_);all_goals(intro hc;try simp only[hcs]at hc;try(exfalso;first|contradiction|omega))))
    refine CW.sub (D := St w NoF [.own b13 (.cells (againD.cells a4 c4).toArray 45 (0, 0)), osl (.slice a4 1 c4) 5 1 1 (bv (againD).msg.body), .own b12 (.cells (badD.cells a3 c3).toArray 45 (0, 0)), osl (.slice a3 1 c3) 5 1 1 (bv (badD).msg.body)]) ?_ (fun u hu => hu.sub (by (repeat (first | exact List.Sublist.refl _ | apply List.Sublist.cons_cons | apply List.Sublist.cons))))
    apply CW.reg_held (St w NoF [.own b13 (.cells (againD.cells a4 c4).toArray 45 (0, 0)), .own b12 (.cells (badD.cells a3 c3).toArray 45 (0, 0))])
    all_goals (
      apply DW.quiet [0]
      · decide +kernel
      · first | exact fun _ h => h | exact fun _ h => St.sub h (by repeat (first | exact List.Sublist.refl _ | apply List.Sublist.cons_cons | apply List.Sublist.cons))
      repeat'(first|refine yv' ?_|refine uv' ?_|refine un' ?_|(refine us' ?_ ?_;all_goals(intro hc;try simp only[hcs]at hc;try(exfalso;first|contradiction|omega)))|apply QL.nil)
      all_goals (show DW _ _ _ _ _ _ _ _))
    all_goals (
      apply DW.loud 1
      · exact rfl
      · decide +kernel
      repeat'(first|refine kg' ?_|refine kG' ?_|apply kM|refine kv' ?_|refine kK' fun _=>?_|refine kU' ?_|refine kB' fun _=>?_|refine kA' fun _=>?_|(apply LR.call; (· exact rfl); (intro w1 h1; refine (show CallsTo Tryz.prog 18 [.int .i64 1] w1 _ from g38 1 (by omega) (by omega) w1).mono ?_; rintro v w2 ⟨a1, c1, rfl, hn⟩; refine LR.back (h1.newSl hn) ?_; clear hn h1; apply kM))|(apply LR.call; (· exact rfl); (intro w1 h1; refine (show CallsTo Tryz.prog 18 [.int .i64 2] w1 _ from g38 2 (by omega) (by omega) w1).mono ?_; rintro v w2 ⟨a2, c2, rfl, hn⟩; refine LR.back (h1.newSl hn) ?_; clear hn h1; apply kM))|(apply LR.call; (· exact rfl); (intro w1 h1; refine (show CallsTo Tryz.prog 18 [.int .i64 9] w1 _ from g38 9 (by omega) (by omega) w1).mono ?_; rintro v w2 ⟨a9, c9, rfl, hn⟩; refine LR.back (h1.newSl hn) ?_; clear hn h1; apply kM))|(apply kq; (· exact rfl); (· intro w1 h1; first | exact CallsTo.q (g35 w1) h1 | exact CallsTo.q (g43 w1) h1 | exact CallsTo.q (h3 none 0 [] (-1) w1 (Rd.nil _ _) (by simp) (by simp)) h1 | exact CallsTo.q (h3 (some ⟨_, 0, none⟩) 5 [⟨oneR 2 1 1, a1, c1⟩, ⟨badD, a3, c3⟩, ⟨oneR 2 1 2, a2, c2⟩, ⟨againD, a4, c4⟩, ⟨oneR 2 1 9, a9, c9⟩] 0 w1 (h1.rd_of_blk (mH _ _)) (dab5 (dab (n := 1) rfl (by decide) (h1.holds _ (by (repeat (first | exact mH _ _ | apply mT))))) (dab (n := 3) rfl (by decide) (h1.holds _ (by (repeat (first | exact mH _ _ | apply mT))))) (dab (n := 2) rfl (by decide) (h1.holds _ (by (repeat (first | exact mH _ _ | apply mT))))) (dab (n := 4) rfl (by decide) (h1.holds _ (by (repeat (first | exact mH _ _ | apply mT))))) (dab (n := 9) rfl (by decide) (h1.holds _ (by (repeat (first | exact mH _ _ | apply mT)))))) (by simp)) h1 | exact CallsTo.q (h3 (some ⟨_, 0, none⟩) 1 [⟨oneR 2 1 1, a1, c1⟩] 4611686018427387904 w1 (h1.rd_of_blk (mH _ _)) (dab1 (dab (n := 1) rfl (by decide) (h1.holds _ (by (repeat (first | exact mH _ _ | apply mT)))))) (by simp)) h1 | exact CallsTo.q (k19 none 0 [] 2 1 (some ⟨_, 0, none⟩) 2 [⟨zeroMsg, none, 0⟩, ⟨oldZ, none, 0⟩] w1 (Rd.nil _ _) (by simp) (by simp) (h1.rd_of_blk (by (repeat (first | exact mH _ _ | apply mT)))) (twoB w1) (by simp)) h1)))
      all_goals (refine At.stage_same (fun _ h => St.sub h (by repeat (first | exact List.Sublist.refl _ | apply List.Sublist.cons_cons | apply List.Sublist.cons))) ?_))
    all_goals (
      apply DW.quiet [2, 3, 4, 5, 6, 7, 8, 9, 10, 11, 12, 13, 14, 15, 16, 17, 18, 19, 20, 21, 22, 23, 25, 27]
      · decide +kernel
      · first | exact fun _ h => h | exact fun _ h => St.sub h (by repeat (first | exact List.Sublist.refl _ | apply List.Sublist.cons_cons | apply List.Sublist.cons))
      repeat'(first|refine yv' ?_|refine uv' ?_|refine un' ?_|(refine us' ?_ ?_;all_goals(intro hc;try simp only[hcs]at hc;try(exfalso;first|contradiction|omega)))|apply QL.nil)
      all_goals (show DW _ _ _ _ _ _ _ _))
    all_goals (
      apply DW.loud 24
      · exact rfl
      · decide +kernel
      repeat'(first|refine kg' ?_|refine kG' ?_|apply kM|refine kv' ?_|refine kK' fun _=>?_|refine kU' ?_|refine kB' fun _=>?_|refine kA' fun _=>?_|(apply LR.call; (· exact rfl); (intro w1 h1; refine (show CallsTo Tryz.prog 18 [.int .i64 1] w1 _ from g38 1 (by omega) (by omega) w1).mono ?_; rintro v w2 ⟨a1, c1, rfl, hn⟩; refine LR.back (h1.newSl hn) ?_; clear hn h1; apply kM))|(apply LR.call; (· exact rfl); (intro w1 h1; refine (show CallsTo Tryz.prog 18 [.int .i64 2] w1 _ from g38 2 (by omega) (by omega) w1).mono ?_; rintro v w2 ⟨a2, c2, rfl, hn⟩; refine LR.back (h1.newSl hn) ?_; clear hn h1; apply kM))|(apply LR.call; (· exact rfl); (intro w1 h1; refine (show CallsTo Tryz.prog 18 [.int .i64 9] w1 _ from g38 9 (by omega) (by omega) w1).mono ?_; rintro v w2 ⟨a9, c9, rfl, hn⟩; refine LR.back (h1.newSl hn) ?_; clear hn h1; apply kM))|(apply kq; (· exact rfl); (· intro w1 h1; first | exact CallsTo.q (g35 w1) h1 | exact CallsTo.q (g43 w1) h1 | exact CallsTo.q (h3 none 0 [] (-1) w1 (Rd.nil _ _) (by simp) (by simp)) h1 | exact CallsTo.q (h3 (some ⟨_, 0, none⟩) 5 [⟨oneR 2 1 1, a1, c1⟩, ⟨badD, a3, c3⟩, ⟨oneR 2 1 2, a2, c2⟩, ⟨againD, a4, c4⟩, ⟨oneR 2 1 9, a9, c9⟩] 0 w1 (h1.rd_of_blk (mH _ _)) (dab5 (dab (n := 1) rfl (by decide) (h1.holds _ (by (repeat (first | exact mH _ _ | apply mT))))) (dab (n := 3) rfl (by decide) (h1.holds _ (by (repeat (first | exact mH _ _ | apply mT))))) (dab (n := 2) rfl (by decide) (h1.holds _ (by (repeat (first | exact mH _ _ | apply mT))))) (dab (n := 4) rfl (by decide) (h1.holds _ (by (repeat (first | exact mH _ _ | apply mT))))) (dab (n := 9) rfl (by decide) (h1.holds _ (by (repeat (first | exact mH _ _ | apply mT)))))) (by simp)) h1 | exact CallsTo.q (h3 (some ⟨_, 0, none⟩) 1 [⟨oneR 2 1 1, a1, c1⟩] 4611686018427387904 w1 (h1.rd_of_blk (mH _ _)) (dab1 (dab (n := 1) rfl (by decide) (h1.holds _ (by (repeat (first | exact mH _ _ | apply mT)))))) (by simp)) h1 | exact CallsTo.q (k19 none 0 [] 2 1 (some ⟨_, 0, none⟩) 2 [⟨zeroMsg, none, 0⟩, ⟨oldZ, none, 0⟩] w1 (Rd.nil _ _) (by simp) (by simp) (h1.rd_of_blk (by (repeat (first | exact mH _ _ | apply mT)))) (twoB w1) (by simp)) h1)))
      all_goals (refine At.stage_same (fun _ h => St.sub h (by repeat (first | exact List.Sublist.refl _ | apply List.Sublist.cons_cons | apply List.Sublist.cons))) ?_))
    all_goals (
      apply DW.loud 26
      · exact rfl
      · decide +kernel
      repeat'(first|refine kg' ?_|refine kG' ?_|apply kM|refine kv' ?_|refine kK' fun _=>?_|refine kU' ?_|refine kB' fun _=>?_|refine kA' fun _=>?_|(apply LR.call; (· exact rfl); (intro w1 h1; refine (show CallsTo Tryz.prog 18 [.int .i64 1] w1 _ from g38 1 (by omega) (by omega) w1).mono ?_; rintro v w2 ⟨a1, c1, rfl, hn⟩; refine LR.back (h1.newSl hn) ?_; clear hn h1; apply kM))|(apply LR.call; (· exact rfl); (intro w1 h1; refine (show CallsTo Tryz.prog 18 [.int .i64 2] w1 _ from g38 2 (by omega) (by omega) w1).mono ?_; rintro v w2 ⟨a2, c2, rfl, hn⟩; refine LR.back (h1.newSl hn) ?_; clear hn h1; apply kM))|(apply LR.call; (· exact rfl); (intro w1 h1; refine (show CallsTo Tryz.prog 18 [.int .i64 9] w1 _ from g38 9 (by omega) (by omega) w1).mono ?_; rintro v w2 ⟨a9, c9, rfl, hn⟩; refine LR.back (h1.newSl hn) ?_; clear hn h1; apply kM))|(apply kq; (· exact rfl); (· intro w1 h1; first | exact CallsTo.q (g35 w1) h1 | exact CallsTo.q (g43 w1) h1 | exact CallsTo.q (h3 none 0 [] (-1) w1 (Rd.nil _ _) (by simp) (by simp)) h1 | exact CallsTo.q (h3 (some ⟨_, 0, none⟩) 5 [⟨oneR 2 1 1, a1, c1⟩, ⟨badD, a3, c3⟩, ⟨oneR 2 1 2, a2, c2⟩, ⟨againD, a4, c4⟩, ⟨oneR 2 1 9, a9, c9⟩] 0 w1 (h1.rd_of_blk (mH _ _)) (dab5 (dab (n := 1) rfl (by decide) (h1.holds _ (by (repeat (first | exact mH _ _ | apply mT))))) (dab (n := 3) rfl (by decide) (h1.holds _ (by (repeat (first | exact mH _ _ | apply mT))))) (dab (n := 2) rfl (by decide) (h1.holds _ (by (repeat (first | exact mH _ _ | apply mT))))) (dab (n := 4) rfl (by decide) (h1.holds _ (by (repeat (first | exact mH _ _ | apply mT))))) (dab (n := 9) rfl (by decide) (h1.holds _ (by (repeat (first | exact mH _ _ | apply mT)))))) (by simp)) h1 | exact CallsTo.q (h3 (some ⟨_, 0, none⟩) 1 [⟨oneR 2 1 1, a1, c1⟩] 4611686018427387904 w1 (h1.rd_of_blk (mH _ _)) (dab1 (dab (n := 1) rfl (by decide) (h1.holds _ (by (repeat (first | exact mH _ _ | apply mT)))))) (by simp)) h1 | exact CallsTo.q (k19 none 0 [] 2 1 (some ⟨_, 0, none⟩) 2 [⟨zeroMsg, none, 0⟩, ⟨oldZ, none, 0⟩] w1 (Rd.nil _ _) (by simp) (by simp) (h1.rd_of_blk (by (repeat (first | exact mH _ _ | apply mT)))) (twoB w1) (by simp)) h1)))
      all_goals (refine At.stage_same (fun _ h => St.sub h (by repeat (first | exact List.Sublist.refl _ | apply List.Sublist.cons_cons | apply List.Sublist.cons))) ?_))
    all_goals (
      apply DW.loud 28
      · exact rfl
      · decide +kernel
      repeat'(first|refine kg' ?_|refine kG' ?_|apply kM|refine kv' ?_|refine kK' fun _=>?_|refine kU' ?_|refine kB' fun _=>?_|refine kA' fun _=>?_|(apply LR.call; (· exact rfl); (intro w1 h1; refine (show CallsTo Tryz.prog 18 [.int .i64 1] w1 _ from g38 1 (by omega) (by omega) w1).mono ?_; rintro v w2 ⟨a1, c1, rfl, hn⟩; refine LR.back (h1.newSl hn) ?_; clear hn h1; apply kM))|(apply LR.call; (· exact rfl); (intro w1 h1; refine (show CallsTo Tryz.prog 18 [.int .i64 2] w1 _ from g38 2 (by omega) (by omega) w1).mono ?_; rintro v w2 ⟨a2, c2, rfl, hn⟩; refine LR.back (h1.newSl hn) ?_; clear hn h1; apply kM))|(apply LR.call; (· exact rfl); (intro w1 h1; refine (show CallsTo Tryz.prog 18 [.int .i64 9] w1 _ from g38 9 (by omega) (by omega) w1).mono ?_; rintro v w2 ⟨a9, c9, rfl, hn⟩; refine LR.back (h1.newSl hn) ?_; clear hn h1; apply kM))|(apply kq; (· exact rfl); (· intro w1 h1; first | exact CallsTo.q (g35 w1) h1 | exact CallsTo.q (g43 w1) h1 | exact CallsTo.q (h3 none 0 [] (-1) w1 (Rd.nil _ _) (by simp) (by simp)) h1 | exact CallsTo.q (h3 (some ⟨_, 0, none⟩) 5 [⟨oneR 2 1 1, a1, c1⟩, ⟨badD, a3, c3⟩, ⟨oneR 2 1 2, a2, c2⟩, ⟨againD, a4, c4⟩, ⟨oneR 2 1 9, a9, c9⟩] 0 w1 (h1.rd_of_blk (mH _ _)) (dab5 (dab (n := 1) rfl (by decide) (h1.holds _ (by (repeat (first | exact mH _ _ | apply mT))))) (dab (n := 3) rfl (by decide) (h1.holds _ (by (repeat (first | exact mH _ _ | apply mT))))) (dab (n := 2) rfl (by decide) (h1.holds _ (by (repeat (first | exact mH _ _ | apply mT))))) (dab (n := 4) rfl (by decide) (h1.holds _ (by (repeat (first | exact mH _ _ | apply mT))))) (dab (n := 9) rfl (by decide) (h1.holds _ (by (repeat (first | exact mH _ _ | apply mT)))))) (by simp)) h1 | exact CallsTo.q (h3 (some ⟨_, 0, none⟩) 1 [⟨oneR 2 1 1, a1, c1⟩] 4611686018427387904 w1 (h1.rd_of_blk (mH _ _)) (dab1 (dab (n := 1) rfl (by decide) (h1.holds _ (by (repeat (first | exact mH _ _ | apply mT)))))) (by simp)) h1 | exact CallsTo.q (k19 none 0 [] 2 1 (some ⟨_, 0, none⟩) 2 [⟨zeroMsg, none, 0⟩, ⟨oldZ, none, 0⟩] w1 (Rd.nil _ _) (by simp) (by simp) (h1.rd_of_blk (by (repeat (first | exact mH _ _ | apply mT)))) (twoB w1) (by simp)) h1)))
      all_goals (refine At.stage_same (fun _ h => St.sub h (by repeat (first | exact List.Sublist.refl _ | apply List.Sublist.cons_cons | apply List.Sublist.cons))) ?_))
    all_goals (
      apply DW.loud 29
      · exact rfl
      · decide +kernel
      repeat'(first|refine kg' ?_|refine kG' ?_|apply kM|refine kv' ?_|refine kK' fun _=>?_|refine kU' ?_|refine kB' fun _=>?_|refine kA' fun _=>?_|(apply LR.call; (· exact rfl); (intro w1 h1; refine (show CallsTo Tryz.prog 18 [.int .i64 1] w1 _ from g38 1 (by omega) (by omega) w1).mono ?_; rintro v w2 ⟨a1, c1, rfl, hn⟩; refine LR.back (h1.newSl hn) ?_; clear hn h1; apply kM))|(apply LR.call; (· exact rfl); (intro w1 h1; refine (show CallsTo Tryz.prog 18 [.int .i64 2] w1 _ from g38 2 (by omega) (by omega) w1).mono ?_; rintro v w2 ⟨a2, c2, rfl, hn⟩; refine LR.back (h1.newSl hn) ?_; clear hn h1; apply kM))|(apply LR.call; (· exact rfl); (intro w1 h1; refine (show CallsTo Tryz.prog 18 [.int .i64 9] w1 _ from g38 9 (by omega) (by omega) w1).mono ?_; rintro v w2 ⟨a9, c9, rfl, hn⟩; refine LR.back (h1.newSl hn) ?_; clear hn h1; apply kM))|(apply kq; (· exact rfl); (· intro w1 h1; first | exact CallsTo.q (g35 w1) h1 | exact CallsTo.q (g43 w1) h1 | exact CallsTo.q (h3 none 0 [] (-1) w1 (Rd.nil _ _) (by simp) (by simp)) h1 | exact CallsTo.q (h3 (some ⟨_, 0, none⟩) 5 [⟨oneR 2 1 1, a1, c1⟩, ⟨badD, a3, c3⟩, ⟨oneR 2 1 2, a2, c2⟩, ⟨againD, a4, c4⟩, ⟨oneR 2 1 9, a9, c9⟩] 0 w1 (h1.rd_of_blk (mH _ _)) (dab5 (dab (n := 1) rfl (by decide) (h1.holds _ (by (repeat (first | exact mH _ _ | apply mT))))) (dab (n := 3) rfl (by decide) (h1.holds _ (by (repeat (first | exact mH _ _ | apply mT))))) (dab (n := 2) rfl (by decide) (h1.holds _ (by (repeat (first | exact mH _ _ | apply mT))))) (dab (n := 4) rfl (by decide) (h1.holds _ (by (repeat (first | exact mH _ _ | apply mT))))) (dab (n := 9) rfl (by decide) (h1.holds _ (by (repeat (first | exact mH _ _ | apply mT)))))) (by simp)) h1 | exact CallsTo.q (h3 (some ⟨_, 0, none⟩) 1 [⟨oneR 2 1 1, a1, c1⟩] 4611686018427387904 w1 (h1.rd_of_blk (mH _ _)) (dab1 (dab (n := 1) rfl (by decide) (h1.holds _ (by (repeat (first | exact mH _ _ | apply mT)))))) (by simp)) h1 | exact CallsTo.q (k19 none 0 [] 2 1 (some ⟨_, 0, none⟩) 2 [⟨zeroMsg, none, 0⟩, ⟨oldZ, none, 0⟩] w1 (Rd.nil _ _) (by simp) (by simp) (h1.rd_of_blk (by (repeat (first | exact mH _ _ | apply mT)))) (twoB w1) (by simp)) h1)))
      all_goals (refine At.stage_same (fun _ h => St.sub h (by repeat (first | exact List.Sublist.refl _ | apply List.Sublist.cons_cons | apply List.Sublist.cons))) ?_))
    all_goals (
      apply DW.loud 30
      · exact rfl
      · decide +kernel
      repeat'(first|refine kg' ?_|refine kG' ?_|apply kM|refine kv' ?_|refine kK' fun _=>?_|refine kU' ?_|refine kB' fun _=>?_|refine kA' fun _=>?_|(apply LR.call; (· exact rfl); (intro w1 h1; refine (show CallsTo Tryz.prog 18 [.int .i64 1] w1 _ from g38 1 (by omega) (by omega) w1).mono ?_; rintro v w2 ⟨a1, c1, rfl, hn⟩; refine LR.back (h1.newSl hn) ?_; clear hn h1; apply kM))|(apply LR.call; (· exact rfl); (intro w1 h1; refine (show CallsTo Tryz.prog 18 [.int .i64 2] w1 _ from g38 2 (by omega) (by omega) w1).mono ?_; rintro v w2 ⟨a2, c2, rfl, hn⟩; refine LR.back (h1.newSl hn) ?_; clear hn h1; apply kM))|(apply LR.call; (· exact rfl); (intro w1 h1; refine (show CallsTo Tryz.prog 18 [.int .i64 9] w1 _ from g38 9 (by omega) (by omega) w1).mono ?_; rintro v w2 ⟨a9, c9, rfl, hn⟩; refine LR.back (h1.newSl hn) ?_; clear hn h1; apply kM))|(apply kq; (· exact rfl); (· intro w1 h1; first | exact CallsTo.q (g35 w1) h1 | exact CallsTo.q (g43 w1) h1 | exact CallsTo.q (h3 none 0 [] (-1) w1 (Rd.nil _ _) (by simp) (by simp)) h1 | exact CallsTo.q (h3 (some ⟨_, 0, none⟩) 5 [⟨oneR 2 1 1, a1, c1⟩, ⟨badD, a3, c3⟩, ⟨oneR 2 1 2, a2, c2⟩, ⟨againD, a4, c4⟩, ⟨oneR 2 1 9, a9, c9⟩] 0 w1 (h1.rd_of_blk (mH _ _)) (dab5 (dab (n := 1) rfl (by decide) (h1.holds _ (by (repeat (first | exact mH _ _ | apply mT))))) (dab (n := 3) rfl (by decide) (h1.holds _ (by (repeat (first | exact mH _ _ | apply mT))))) (dab (n := 2) rfl (by decide) (h1.holds _ (by (repeat (first | exact mH _ _ | apply mT))))) (dab (n := 4) rfl (by decide) (h1.holds _ (by (repeat (first | exact mH _ _ | apply mT))))) (dab (n := 9) rfl (by decide) (h1.holds _ (by (repeat (first | exact mH _ _ | apply mT)))))) (by simp)) h1 | exact CallsTo.q (h3 (some ⟨_, 0, none⟩) 1 [⟨oneR 2 1 1, a1, c1⟩] 4611686018427387904 w1 (h1.rd_of_blk (mH _ _)) (dab1 (dab (n := 1) rfl (by decide) (h1.holds _ (by (repeat (first | exact mH _ _ | apply mT)))))) (by simp)) h1 | exact CallsTo.q (k19 none 0 [] 2 1 (some ⟨_, 0, none⟩) 2 [⟨zeroMsg, none, 0⟩, ⟨oldZ, none, 0⟩] w1 (Rd.nil _ _) (by simp) (by simp) (h1.rd_of_blk (by (repeat (first | exact mH _ _ | apply mT)))) (twoB w1) (by simp)) h1)))
      all_goals (refine At.stage_same (fun _ h => St.sub h (by repeat (first | exact List.Sublist.refl _ | apply List.Sublist.cons_cons | apply List.Sublist.cons))) ?_))
    all_goals (
      apply DW.quiet [31, 32]
      · decide +kernel
      · first | exact fun _ h => h | exact fun _ h => St.sub h (by repeat (first | exact List.Sublist.refl _ | apply List.Sublist.cons_cons | apply List.Sublist.cons))
      repeat'(first|refine yv' ?_|refine uv' ?_|refine un' ?_|(refine us' ?_ ?_;all_goals(intro hc;try simp only[hcs]at hc;try(exfalso;first|contradiction|omega)))|apply QL.nil)
      all_goals (show DW _ _ _ _ _ _ _ _))
    all_goals (
      apply DW.loud 33
      · exact rfl
      · decide +kernel
      repeat'(first|refine kg' ?_|refine kG' ?_|apply kM|refine kv' ?_|refine kK' fun _=>?_|refine kU' ?_|refine kB' fun _=>?_|refine kA' fun _=>?_|(apply LR.call; (· exact rfl); (intro w1 h1; refine (show CallsTo Tryz.prog 18 [.int .i64 1] w1 _ from g38 1 (by omega) (by omega) w1).mono ?_; rintro v w2 ⟨a1, c1, rfl, hn⟩; refine LR.back (h1.newSl hn) ?_; clear hn h1; apply kM))|(apply LR.call; (· exact rfl); (intro w1 h1; refine (show CallsTo Tryz.prog 18 [.int .i64 2] w1 _ from g38 2 (by omega) (by omega) w1).mono ?_; rintro v w2 ⟨a2, c2, rfl, hn⟩; refine LR.back (h1.newSl hn) ?_; clear hn h1; apply kM))|(apply LR.call; (· exact rfl); (intro w1 h1; refine (show CallsTo Tryz.prog 18 [.int .i64 9] w1 _ from g38 9 (by omega) (by omega) w1).mono ?_; rintro v w2 ⟨a9, c9, rfl, hn⟩; refine LR.back (h1.newSl hn) ?_; clear hn h1; apply kM))|(apply kq; (· exact rfl); (· intro w1 h1; first | exact CallsTo.q (g35 w1) h1 | exact CallsTo.q (g43 w1) h1 | exact CallsTo.q (h3 none 0 [] (-1) w1 (Rd.nil _ _) (by simp) (by simp)) h1 | exact CallsTo.q (h3 (some ⟨_, 0, none⟩) 5 [⟨oneR 2 1 1, a1, c1⟩, ⟨badD, a3, c3⟩, ⟨oneR 2 1 2, a2, c2⟩, ⟨againD, a4, c4⟩, ⟨oneR 2 1 9, a9, c9⟩] 0 w1 (h1.rd_of_blk (mH _ _)) (dab5 (dab (n := 1) rfl (by decide) (h1.holds _ (by (repeat (first | exact mH _ _ | apply mT))))) (dab (n := 3) rfl (by decide) (h1.holds _ (by (repeat (first | exact mH _ _ | apply mT))))) (dab (n := 2) rfl (by decide) (h1.holds _ (by (repeat (first | exact mH _ _ | apply mT))))) (dab (n := 4) rfl (by decide) (h1.holds _ (by (repeat (first | exact mH _ _ | apply mT))))) (dab (n := 9) rfl (by decide) (h1.holds _ (by (repeat (first | exact mH _ _ | apply mT)))))) (by simp)) h1 | exact CallsTo.q (h3 (some ⟨_, 0, none⟩) 1 [⟨oneR 2 1 1, a1, c1⟩] 4611686018427387904 w1 (h1.rd_of_blk (mH _ _)) (dab1 (dab (n := 1) rfl (by decide) (h1.holds _ (by (repeat (first | exact mH _ _ | apply mT)))))) (by simp)) h1 | exact CallsTo.q (k19 none 0 [] 2 1 (some ⟨_, 0, none⟩) 2 [⟨zeroMsg, none, 0⟩, ⟨oldZ, none, 0⟩] w1 (Rd.nil _ _) (by simp) (by simp) (h1.rd_of_blk (by (repeat (first | exact mH _ _ | apply mT)))) (twoB w1) (by simp)) h1)))
      all_goals (refine At.stage_same (fun _ h => St.sub h (by repeat (first | exact List.Sublist.refl _ | apply List.Sublist.cons_cons | apply List.Sublist.cons))) ?_))
    all_goals (
      apply DW.loud 34
      · exact rfl
      · decide +kernel
      repeat'(first|refine kg' ?_|refine kG' ?_|apply kM|refine kv' ?_|refine kK' fun _=>?_|refine kU' ?_|refine kB' fun _=>?_|refine kA' fun _=>?_|(apply LR.call; (· exact rfl); (intro w1 h1; refine (show CallsTo Tryz.prog 18 [.int .i64 1] w1 _ from g38 1 (by omega) (by omega) w1).mono ?_; rintro v w2 ⟨a1, c1, rfl, hn⟩; refine LR.back (h1.newSl hn) ?_; clear hn h1; apply kM))|(apply LR.call; (· exact rfl); (intro w1 h1; refine (show CallsTo Tryz.prog 18 [.int .i64 2] w1 _ from g38 2 (by omega) (by omega) w1).mono ?_; rintro v w2 ⟨a2, c2, rfl, hn⟩; refine LR.back (h1.newSl hn) ?_; clear hn h1; apply kM))|(apply LR.call; (· exact rfl); (intro w1 h1; refine (show CallsTo Tryz.prog 18 [.int .i64 9] w1 _ from g38 9 (by omega) (by omega) w1).mono ?_; rintro v w2 ⟨a9, c9, rfl, hn⟩; refine LR.back (h1.newSl hn) ?_; clear hn h1; apply kM))|(apply kq; (· exact rfl); (· intro w1 h1; first | exact CallsTo.q (g35 w1) h1 | exact CallsTo.q (g43 w1) h1 | exact CallsTo.q (h3 none 0 [] (-1) w1 (Rd.nil _ _) (by simp) (by simp)) h1 | exact CallsTo.q (h3 (some ⟨_, 0, none⟩) 5 [⟨oneR 2 1 1, a1, c1⟩, ⟨badD, a3, c3⟩, ⟨oneR 2 1 2, a2, c2⟩, ⟨againD, a4, c4⟩, ⟨oneR 2 1 9, a9, c9⟩] 0 w1 (h1.rd_of_blk (mH _ _)) (dab5 (dab (n := 1) rfl (by decide) (h1.holds _ (by (repeat (first | exact mH _ _ | apply mT))))) (dab (n := 3) rfl (by decide) (h1.holds _ (by (repeat (first | exact mH _ _ | apply mT))))) (dab (n := 2) rfl (by decide) (h1.holds _ (by (repeat (first | exact mH _ _ | apply mT))))) (dab (n := 4) rfl (by decide) (h1.holds _ (by (repeat (first | exact mH _ _ | apply mT))))) (dab (n := 9) rfl (by decide) (h1.holds _ (by (repeat (first | exact mH _ _ | apply mT)))))) (by simp)) h1 | exact CallsTo.q (h3 (some ⟨_, 0, none⟩) 1 [⟨oneR 2 1 1, a1, c1⟩] 4611686018427387904 w1 (h1.rd_of_blk (mH _ _)) (dab1 (dab (n := 1) rfl (by decide) (h1.holds _ (by (repeat (first | exact mH _ _ | apply mT)))))) (by simp)) h1 | exact CallsTo.q (k19 none 0 [] 2 1 (some ⟨_, 0, none⟩) 2 [⟨zeroMsg, none, 0⟩, ⟨oldZ, none, 0⟩] w1 (Rd.nil _ _) (by simp) (by simp) (h1.rd_of_blk (by (repeat (first | exact mH _ _ | apply mT)))) (twoB w1) (by simp)) h1)))
      all_goals (refine At.stage_same (fun _ h => St.sub h (by repeat (first | exact List.Sublist.refl _ | apply List.Sublist.cons_cons | apply List.Sublist.cons))) ?_))
    all_goals (
      apply DW.loud 35
      · exact rfl
      · decide +kernel
      repeat'(first|refine kg' ?_|refine kG' ?_|apply kM|refine kv' ?_|refine kK' fun _=>?_|refine kU' ?_|refine kB' fun _=>?_|refine kA' fun _=>?_|(apply LR.call; (· exact rfl); (intro w1 h1; refine (show CallsTo Tryz.prog 18 [.int .i64 1] w1 _ from g38 1 (by omega) (by omega) w1).mono ?_; rintro v w2 ⟨a1, c1, rfl, hn⟩; refine LR.back (h1.newSl hn) ?_; clear hn h1; apply kM))|(apply LR.call; (· exact rfl); (intro w1 h1; refine (show CallsTo Tryz.prog 18 [.int .i64 2] w1 _ from g38 2 (by omega) (by omega) w1).mono ?_; rintro v w2 ⟨a2, c2, rfl, hn⟩; refine LR.back (h1.newSl hn) ?_; clear hn h1; apply kM))|(apply LR.call; (· exact rfl); (intro w1 h1; refine (show CallsTo Tryz.prog 18 [.int .i64 9] w1 _ from g38 9 (by omega) (by omega) w1).mono ?_; rintro v w2 ⟨a9, c9, rfl, hn⟩; refine LR.back (h1.newSl hn) ?_; clear hn h1; apply kM))|(apply kq; (· exact rfl); (· intro w1 h1; first | exact CallsTo.q (g35 w1) h1 | exact CallsTo.q (g43 w1) h1 | exact CallsTo.q (h3 none 0 [] (-1) w1 (Rd.nil _ _) (by simp) (by simp)) h1 | exact CallsTo.q (h3 (some ⟨_, 0, none⟩) 5 [⟨oneR 2 1 1, a1, c1⟩, ⟨badD, a3, c3⟩, ⟨oneR 2 1 2, a2, c2⟩, ⟨againD, a4, c4⟩, ⟨oneR 2 1 9, a9, c9⟩] 0 w1 (h1.rd_of_blk (mH _ _)) (dab5 (dab (n := 1) rfl (by decide) (h1.holds _ (by (repeat (first | exact mH _ _ | apply mT))))) (dab (n := 3) rfl (by decide) (h1.holds _ (by (repeat (first | exact mH _ _ | apply mT))))) (dab (n := 2) rfl (by decide) (h1.holds _ (by (repeat (first | exact mH _ _ | apply mT))))) (dab (n := 4) rfl (by decide) (h1.holds _ (by (repeat (first | exact mH _ _ | apply mT))))) (dab (n := 9) rfl (by decide) (h1.holds _ (by (repeat (first | exact mH _ _ | apply mT)))))) (by simp)) h1 | exact CallsTo.q (h3 (some ⟨_, 0, none⟩) 1 [⟨oneR 2 1 1, a1, c1⟩] 4611686018427387904 w1 (h1.rd_of_blk (mH _ _)) (dab1 (dab (n := 1) rfl (by decide) (h1.holds _ (by (repeat (first | exact mH _ _ | apply mT)))))) (by simp)) h1 | exact CallsTo.q (k19 none 0 [] 2 1 (some ⟨_, 0, none⟩) 2 [⟨zeroMsg, none, 0⟩, ⟨oldZ, none, 0⟩] w1 (Rd.nil _ _) (by simp) (by simp) (h1.rd_of_blk (by (repeat (first | exact mH _ _ | apply mT)))) (twoB w1) (by simp)) h1)))
      all_goals (refine At.stage_same (fun _ h => St.sub h (by repeat (first | exact List.Sublist.refl _ | apply List.Sublist.cons_cons | apply List.Sublist.cons))) ?_))
    all_goals (
      apply DW.quiet [36, 37]
      · decide +kernel
      · first | exact fun _ h => h | exact fun _ h => St.sub h (by repeat (first | exact List.Sublist.refl _ | apply List.Sublist.cons_cons | apply List.Sublist.cons))
      repeat'(first|refine yv' ?_|refine uv' ?_|refine un' ?_|(refine us' ?_ ?_;all_goals(intro hc;try simp only[hcs]at hc;try(exfalso;first|contradiction|omega)))|apply QL.nil)
      all_goals (show DW _ _ _ _ _ _ _ _))
    all_goals (
      apply DW.loud 38
      · exact rfl
      · decide +kernel
      repeat'(first|refine kg' ?_|refine kG' ?_|apply kM|refine kv' ?_|refine kK' fun _=>?_|refine kU' ?_|refine kB' fun _=>?_|refine kA' fun _=>?_|(apply LR.call; (· exact rfl); (intro w1 h1; refine (show CallsTo Tryz.prog 18 [.int .i64 1] w1 _ from g38 1 (by omega) (by omega) w1).mono ?_; rintro v w2 ⟨a1, c1, rfl, hn⟩; refine LR.back (h1.newSl hn) ?_; clear hn h1; apply kM))|(apply LR.call; (· exact rfl); (intro w1 h1; refine (show CallsTo Tryz.prog 18 [.int .i64 2] w1 _ from g38 2 (by omega) (by omega) w1).mono ?_; rintro v w2 ⟨a2, c2, rfl, hn⟩; refine LR.back (h1.newSl hn) ?_; clear hn h1; apply kM))|(apply LR.call; (· exact rfl); (intro w1 h1; refine (show CallsTo Tryz.prog 18 [.int .i64 9] w1 _ from g38 9 (by omega) (by omega) w1).mono ?_; rintro v w2 ⟨a9, c9, rfl, hn⟩; refine LR.back (h1.newSl hn) ?_; clear hn h1; apply kM))|(apply kq; (· exact rfl); (· intro w1 h1; first | exact CallsTo.q (g35 w1) h1 | exact CallsTo.q (g43 w1) h1 | exact CallsTo.q (h3 none 0 [] (-1) w1 (Rd.nil _ _) (by simp) (by simp)) h1 | exact CallsTo.q (h3 (some ⟨_, 0, none⟩) 5 [⟨oneR 2 1 1, a1, c1⟩, ⟨badD, a3, c3⟩, ⟨oneR 2 1 2, a2, c2⟩, ⟨againD, a4, c4⟩, ⟨oneR 2 1 9, a9, c9⟩] 0 w1 (h1.rd_of_blk (mH _ _)) (dab5 (dab (n := 1) rfl (by decide) (h1.holds _ (by (repeat (first | exact mH _ _ | apply mT))))) (dab (n := 3) rfl (by decide) (h1.holds _ (by (repeat (first | exact mH _ _ | apply mT))))) (dab (n := 2) rfl (by decide) (h1.holds _ (by (repeat (first | exact mH _ _ | apply mT))))) (dab (n := 4) rfl (by decide) (h1.holds _ (by (repeat (first | exact mH _ _ | apply mT))))) (dab (n := 9) rfl (by decide) (h1.holds _ (by (repeat (first | exact mH _ _ | apply mT)))))) (by simp)) h1 | exact CallsTo.q (h3 (some ⟨_, 0, none⟩) 1 [⟨oneR 2 1 1, a1, c1⟩] 4611686018427387904 w1 (h1.rd_of_blk (mH _ _)) (dab1 (dab (n := 1) rfl (by decide) (h1.holds _ (by (repeat (first | exact mH _ _ | apply mT)))))) (by simp)) h1 | exact CallsTo.q (k19 none 0 [] 2 1 (some ⟨_, 0, none⟩) 2 [⟨zeroMsg, none, 0⟩, ⟨oldZ, none, 0⟩] w1 (Rd.nil _ _) (by simp) (by simp) (h1.rd_of_blk (by (repeat (first | exact mH _ _ | apply mT)))) (twoB w1) (by simp)) h1)))
      all_goals (refine At.stage_same (fun _ h => St.sub h (by repeat (first | exact List.Sublist.refl _ | apply List.Sublist.cons_cons | apply List.Sublist.cons))) ?_))
    all_goals (
      apply DW.quiet [39, 40, 42, 43]
      · decide +kernel
      · first | exact fun _ h => h | exact fun _ h => St.sub h (by repeat (first | exact List.Sublist.refl _ | apply List.Sublist.cons_cons | apply List.Sublist.cons))
      repeat'(first|refine yv' ?_|refine uv' ?_|refine un' ?_|(refine us' ?_ ?_;all_goals(intro hc;try simp only[hcs]at hc;try(exfalso;first|contradiction|omega)))|apply QL.nil)
      all_goals (show DW _ _ _ _ _ _ _ _))
    apply DP.begin []
    refine DP.more (PI.lr 44 105 [(101, .bool true), (103, .agg (zeroMsg.cells none 0).toArray), (104, .agg (oldZ.cells none 0).toArray)] (fun b => .slice (some ⟨b, 0, none⟩) 2 2) (fun b => [.own b (.cells ((zeroMsg.cells none 0 ++ []) ++ (oldZ.cells none 0 ++ []) : List Value).toArray 43 (0, 0))]) rfl (fun b x hx => by simp only [List.mem_singleton] at hx; subst hx; rfl) ?_) ?_
    · intro h w2
      apply kg
      · exact rfl
      · exact rfl
      apply kK
      · exact rfl
      · exact rfl
      · exact rfl
      · exact rfl
      intro b
      apply kM
      exact At.made rfl
    refine DP.go 41 [44] [105] [[101, 103, 104]] rfl rfl rfl rfl (by decide +kernel) ⟨⟨rfl, rfl, rfl, trivial⟩, fun _ _ _ => trivial, trivial⟩ (fun A w' hA => St.sub hA (by simp only [List.cons_append, List.nil_append]; repeat (first | exact List.nil_sublist _ | exact List.Sublist.refl _ | apply List.Sublist.cons_cons | apply List.Sublist.cons))) ?_
    intro gg A LA hLA
    simp only [List.cons_append, List.nil_append] at hLA
    subst hLA
    repeat'(first|refine kg' ?_|refine kG' ?_|apply kM|refine kv' ?_|refine kK' fun _=>?_|refine kU' ?_|refine kB' fun _=>?_|refine kA' fun _=>?_|(apply LR.call; (· exact rfl); (intro w1 h1; refine (show CallsTo Tryz.prog 18 [.int .i64 1] w1 _ from g38 1 (by omega) (by omega) w1).mono ?_; rintro v w2 ⟨a1, c1, rfl, hn⟩; refine LR.back (h1.newSl hn) ?_; clear hn h1; apply kM))|(apply LR.call; (· exact rfl); (intro w1 h1; refine (show CallsTo Tryz.prog 18 [.int .i64 2] w1 _ from g38 2 (by omega) (by omega) w1).mono ?_; rintro v w2 ⟨a2, c2, rfl, hn⟩; refine LR.back (h1.newSl hn) ?_; clear hn h1; apply kM))|(apply LR.call; (· exact rfl); (intro w1 h1; refine (show CallsTo Tryz.prog 18 [.int .i64 9] w1 _ from g38 9 (by omega) (by omega) w1).mono ?_; rintro v w2 ⟨a9, c9, rfl, hn⟩; refine LR.back (h1.newSl hn) ?_; clear hn h1; apply kM))|(apply kq; (· exact rfl); (· intro w1 h1; first | exact CallsTo.q (g35 w1) h1 | exact CallsTo.q (g43 w1) h1 | exact CallsTo.q (h3 none 0 [] (-1) w1 (Rd.nil _ _) (by simp) (by simp)) h1 | exact CallsTo.q (h3 (some ⟨_, 0, none⟩) 5 [⟨oneR 2 1 1, a1, c1⟩, ⟨badD, a3, c3⟩, ⟨oneR 2 1 2, a2, c2⟩, ⟨againD, a4, c4⟩, ⟨oneR 2 1 9, a9, c9⟩] 0 w1 (h1.rd_of_blk (mH _ _)) (dab5 (dab (n := 1) rfl (by decide) (h1.holds _ (by (repeat (first | exact mH _ _ | apply mT))))) (dab (n := 3) rfl (by decide) (h1.holds _ (by (repeat (first | exact mH _ _ | apply mT))))) (dab (n := 2) rfl (by decide) (h1.holds _ (by (repeat (first | exact mH _ _ | apply mT))))) (dab (n := 4) rfl (by decide) (h1.holds _ (by (repeat (first | exact mH _ _ | apply mT))))) (dab (n := 9) rfl (by decide) (h1.holds _ (by (repeat (first | exact mH _ _ | apply mT)))))) (by simp)) h1 | exact CallsTo.q (h3 (some ⟨_, 0, none⟩) 1 [⟨oneR 2 1 1, a1, c1⟩] 4611686018427387904 w1 (h1.rd_of_blk (mH _ _)) (dab1 (dab (n := 1) rfl (by decide) (h1.holds _ (by (repeat (first | exact mH _ _ | apply mT)))))) (by simp)) h1 | exact CallsTo.q (k19 none 0 [] 2 1 (some ⟨_, 0, none⟩) 2 [⟨zeroMsg, none, 0⟩, ⟨oldZ, none, 0⟩] w1 (Rd.nil _ _) (by simp) (by simp) (h1.rd_of_blk (by (repeat (first | exact mH _ _ | apply mT)))) (twoB w1) (by simp)) h1)))
    apply At.pdone (ds := [105]) rfl
    · repeat (first | exact MixR.base _ | (apply MixR.upd; case hd => exact rfl))
    · repeat (first | exact Tl.nil | apply Tl.cons)
    · exact (fun A w' hA => St.sub hA (by simp only [List.cons_append, List.nil_append]; repeat (first | exact List.nil_sublist _ | exact List.Sublist.refl _ | apply List.Sublist.cons_cons | apply List.Sublist.cons)))
    refine DP.take 44 105 (fun b => .slice (some ⟨b, 0, none⟩) 2 2) (fun b => [.own b (.cells ((zeroMsg.cells none 0 ++ []) ++ (oldZ.cells none 0 ++ []) : List Value).toArray 43 (0, 0))]) [] [105] [[101, 103, 104]] rfl rfl rfl rfl rfl rfl rfl (by decide +kernel) ⟨⟨rfl, rfl, rfl, trivial⟩, fun _ _ _ => trivial, trivial⟩ (fun A w' hA => St.sub hA (by simp only [List.cons_append, List.nil_append]; repeat (first | exact List.nil_sublist _ | exact List.Sublist.refl _ | apply List.Sublist.cons_cons | apply List.Sublist.cons))) (fun bp105 => ?_)
    refine DP.nil ?_
    refine DW.castL (by simp only [List.cons_append, List.nil_append]; exact rfl) ?_
    all_goals (
      apply DW.loud 45
      · exact rfl
      · decide +kernel
      repeat'(first|refine kg' ?_|refine kG' ?_|apply kM|refine kv' ?_|refine kK' fun _=>?_|refine kU' ?_|refine kB' fun _=>?_|refine kA' fun _=>?_|(apply LR.call; (· exact rfl); (intro w1 h1; refine (show CallsTo Tryz.prog 18 [.int .i64 1] w1 _ from g38 1 (by omega) (by omega) w1).mono ?_; rintro v w2 ⟨a1, c1, rfl, hn⟩; refine LR.back (h1.newSl hn) ?_; clear hn h1; apply kM))|(apply LR.call; (· exact rfl); (intro w1 h1; refine (show CallsTo Tryz.prog 18 [.int .i64 2] w1 _ from g38 2 (by omega) (by omega) w1).mono ?_; rintro v w2 ⟨a2, c2, rfl, hn⟩; refine LR.back (h1.newSl hn) ?_; clear hn h1; apply kM))|(apply LR.call; (· exact rfl); (intro w1 h1; refine (show CallsTo Tryz.prog 18 [.int .i64 9] w1 _ from g38 9 (by omega) (by omega) w1).mono ?_; rintro v w2 ⟨a9, c9, rfl, hn⟩; refine LR.back (h1.newSl hn) ?_; clear hn h1; apply kM))|(apply kq; (· exact rfl); (· intro w1 h1; first | exact CallsTo.q (g35 w1) h1 | exact CallsTo.q (g43 w1) h1 | exact CallsTo.q (h3 none 0 [] (-1) w1 (Rd.nil _ _) (by simp) (by simp)) h1 | exact CallsTo.q (h3 (some ⟨_, 0, none⟩) 5 [⟨oneR 2 1 1, a1, c1⟩, ⟨badD, a3, c3⟩, ⟨oneR 2 1 2, a2, c2⟩, ⟨againD, a4, c4⟩, ⟨oneR 2 1 9, a9, c9⟩] 0 w1 (h1.rd_of_blk (mH _ _)) (dab5 (dab (n := 1) rfl (by decide) (h1.holds _ (by (repeat (first | exact mH _ _ | apply mT))))) (dab (n := 3) rfl (by decide) (h1.holds _ (by (repeat (first | exact mH _ _ | apply mT))))) (dab (n := 2) rfl (by decide) (h1.holds _ (by (repeat (first | exact mH _ _ | apply mT))))) (dab (n := 4) rfl (by decide) (h1.holds _ (by (repeat (first | exact mH _ _ | apply mT))))) (dab (n := 9) rfl (by decide) (h1.holds _ (by (repeat (first | exact mH _ _ | apply mT)))))) (by simp)) h1 | exact CallsTo.q (h3 (some ⟨_, 0, none⟩) 1 [⟨oneR 2 1 1, a1, c1⟩] 4611686018427387904 w1 (h1.rd_of_blk (mH _ _)) (dab1 (dab (n := 1) rfl (by decide) (h1.holds _ (by (repeat (first | exact mH _ _ | apply mT)))))) (by simp)) h1 | exact CallsTo.q (k19 none 0 [] 2 1 (some ⟨_, 0, none⟩) 2 [⟨zeroMsg, none, 0⟩, ⟨oldZ, none, 0⟩] w1 (Rd.nil _ _) (by simp) (by simp) (h1.rd_of_blk (by (repeat (first | exact mH _ _ | apply mT)))) (twoB w1) (by simp)) h1)))
      all_goals (refine At.stage_same (fun _ h => St.sub h (by repeat (first | exact List.Sublist.refl _ | apply List.Sublist.cons_cons | apply List.Sublist.cons))) ?_))
    all_goals (
      apply DW.quiet [46, 47]
      · decide +kernel
      · first | exact fun _ h => h | exact fun _ h => St.sub h (by repeat (first | exact List.Sublist.refl _ | apply List.Sublist.cons_cons | apply List.Sublist.cons))
      repeat'(first|refine yv' ?_|refine uv' ?_|refine un' ?_|(refine us' ?_ ?_;all_goals(intro hc;try simp only[hcs]at hc;try(exfalso;first|contradiction|omega)))|apply QL.nil)
      all_goals (show DW _ _ _ _ _ _ _ _))
    all_goals (first | (apply DW.done_thn; (· decide +kernel)) | (apply DW.done; (· decide +kernel)))
    repeat'(first|refine kv' ?_|apply jJ|refine jE' ?_|refine jp' ?_|(apply jc;kernel_rfl)|refine kg' ?_|refine kG' ?_|refine kB' fun _=>?_|refine kA' fun _=>?_|refine kK' fun _=>?_|refine kU' ?_|((first|refine kR' ?_ ?_|refine kQ' ?_ ?_);all_goals(intro hc;try simp only[hcs]at hc;try(exfalso;first|contradiction|omega))))
    (apply ret1; (· exact rfl); intro w' hS)
    exact ⟨rfl, hS.toKeep⟩
end Go.Proofs.YtgblmkpfkcibiaaGreat

namespace Go.Proofs.YtgblmkpfkcibiaaGreat
open Go.Hb Go.ChangeShapes Go.WideShapes
attribute [local irreducible] LR CW At Ev thn blk finK noG again CallsTo DW QL dnext
set_option linter.unusedSimpArgs false
set_option linter.unusedVariables false

set_option maxHeartbeats 1000000 in
set_option maxRecDepth 100000 in
theorem regainNames_lifted (os : Os) (started : os.Started) (H : Type) (enc : TypeId × Value → H) :
    ReturnsInHanded {} Tryz.checked os 4 .any (Rows.regainNamesSpec.pre6 enc Tryz.prog Tryz.f4 Rows.regainNamesRow.domain false) (Rows.regainNamesSpec.post enc Tryz.prog Tryz.f4 false true false false) := by
  refine returnsInHanded_of_change_sized (C := Tryz.checked) (s := Rows.regainNamesSpec) own_knob started (by kernel_rfl) Tryz.func4
    (ChangeSpec.witness6 (enc := enc) (C := Tryz.checked) false ⟨#[], #[], []⟩ 12 (by kernel_rfl) (by kernel_rfl) (by kernel_rfl) (by kernel_rfl)) ?_
  intro W base args ds gs before hval hW hcnd hwt _
  have hW' := hW
  obtain ⟨p, q, hA0, hV, rfl, hfz, hnd⟩ := hW'
  obtain ⟨rfl, rfl⟩ := trodVars_none hV
  have hA : DataW.TrodAll enc Tryz.prog W 0 (fun _ => true) true Tryz.f4.params.toList args.toList ds p := hA0
  rw [Tryz.params4] at hA
  obtain ⟨hargs, rfl, rfl⟩ := trodAll_nil hA
  obtain rfl : args = #[] := by cases args; simp_all
  refine (k4 W).calls fun v W' ⟨hv, hg⟩ => ⟨v, rfl, ?_⟩
  subst hv
  exact law_post kids full_slices hW hg rfl rfl (by kernel_rfl) Tryz.underlying4 (by rw [Tryz.params4]; decide +kernel)

theorem regainNames_holds : Rows.RegainNamesSaid :=
  OpenClaim.holds_of_wide 4 Tryz.f4 rfl rfl rfl rfl rfl rfl rfl ⟨rfl, rfl, rfl, rfl, rfl⟩ rfl rfl rfl rfl rfl (by kernel_rfl) Tryz.func4 (by kernel_rfl)
    (of_decide_eq_true (by kernel_rfl)) (by unfold Func.isWrapper; first | (rw [if_pos (by decide +kernel)]; kernel_rfl) | (rw [if_neg (by decide +kernel)]; exact ⟨rfl, rfl⟩))
    (fun os started H enc _ => regainNames_lifted os started H enc)
end Go.Proofs.YtgblmkpfkcibiaaGreat
