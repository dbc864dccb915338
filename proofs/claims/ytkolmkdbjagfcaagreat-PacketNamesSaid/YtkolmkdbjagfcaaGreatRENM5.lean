/-
  What is packed comes back.
-/
import Derived.Test.YtkolmkdbjagfcaaGreatRENM4

set_option linter.unusedSimpArgs false
set_option linter.unusedVariables false
namespace Go.Proofs.YtkolmkdbjagfcaaGreat
open Go.Hb
attribute [local irreducible] LR CW At Ev thn blk finK noG again CallsTo DW QL dnext TW DP
set_option maxRecDepth 100000

theorem tokHead_iff (t : Tkn) : tokHead t = true ↔ (liveR t.r1 t.r2 = true ∧ 1 ≤ t.hop ∧ numB t.hop = true ∧ numB t.seq = true ∧ 0 ≤ t.aru ∧ t.aru ≤ t.seq ∧ 0 ≤ t.low ∧ t.low ≤ 8 ∧ numB t.stamp = true ∧ numB t.idle = true ∧ (t.ask.length : Int) ≤ 16) := by
  unfold tokHead numB
  simp only [Bool.and_eq_true, List.all_cons, List.all_nil, and_true, Bool.not_eq_true', decide_eq_false_iff_not, decide_eq_true_eq]
  constructor
  · rintro ⟨⟨⟨⟨⟨h1, h2⟩, h3, h4, h5, h6, h7⟩, h8⟩, h9⟩, h10⟩
    exact ⟨h1, by omega, h3, h4, by omega, by omega, by omega, by omega, h6, h7, by omega⟩
  · rintro ⟨h1, h2, h3, h4, h5, h6, h7, h8, h9, h10, h11⟩
    exact ⟨⟨⟨⟨⟨h1, by omega⟩, h3, h4, by omega, h9, h10⟩, by omega⟩, by omega⟩, by omega⟩
set_option maxHeartbeats 8000000 in
theorem e48 (t : Tkn) (a : Option Addr) (c : Nat) (w : World) (hr : Rd w a (iv t.ask)) : CallsTo Tryz.prog 48 [t.val a c] w fun v w' => v = .bool (mayT t) ∧ Grew w w' := by
  refine go_in (n := 106) (St.rd1 hr) Tryz.func48 rfl rfl ?_
  cases hth : tokHead t
  · repeat'(first|(apply kB;(iterate 2 exact rfl);intro b1)|refine kv' ?_|apply jJ|refine jE' ?_|refine jp' ?_|(apply jc;kernel_rfl)|refine kg' ?_|refine kG' ?_|refine kB' fun _=>?_|refine kA' fun _=>?_|refine kK' fun _=>?_|refine kU' ?_|(apply kq; (· exact rfl); (· intro w1 h1; first | exact CallsTo.q (e44 t.r1 t.r2 w1) h1 | exact CallsTo.q (e45 _ w1) h1))|((first|refine kR' ?_ ?_|refine kQ' ?_ ?_);all_goals(intro hc;try simp only[hcs]at hc;try(exfalso;first|contradiction|omega))))
    all_goals try (exfalso; rw [(tokHead_iff t).2 ⟨by assumption, by assumption, by assumption, by assumption, by assumption, by assumption, by assumption, by assumption, by assumption, by assumption, by assumption⟩] at hth; cases hth)
    all_goals (
      (apply ret1; (· exact rfl); intro w' hS)
      refine ⟨congrArg Value.bool ?_, hS.toKeep⟩
      unfold mayT
      rw [hth]
      rfl)
  · have hseq : 0 ≤ t.seq ∧ t.seq ≤ 9007199254740991 := by
      unfold tokHead at hth
      simp only [Bool.and_eq_true, List.all_cons] at hth
      have := hth.1.1.1.2.2.1
      unfold numB at this
      simpa using this
    have hlen : t.ask.length ≤ 16 := by
      unfold tokHead at hth
      simp only [Bool.and_eq_true, Bool.not_eq_true', decide_eq_false_iff_not] at hth
      omega
    have hmt : mayT t = askOk t.seq 0 t.ask := by unfold mayT; rw [hth]; rfl
    obtain ⟨g1, g2, g3, g4, g5, g6, g7, g8, g9, g10, g11⟩ := (tokHead_iff t).1 hth
    rw [hmt]
    repeat'(first|(apply kB;(iterate 2 exact rfl);intro b1)|refine kv' ?_|apply jJ|refine jE' ?_|refine jp' ?_|(apply jc;kernel_rfl)|refine kg' ?_|refine kG' ?_|refine kB' fun _=>?_|refine kA' fun _=>?_|refine kK' fun _=>?_|refine kU' ?_|(apply kq; (· exact rfl); (· intro w1 h1; first | exact CallsTo.q (e44 t.r1 t.r2 w1) h1 | exact CallsTo.q (e45 _ w1) h1))|((first|refine kR' ?_ ?_|refine kQ' ?_ ?_);all_goals(intro hc;try simp only[hcs]at hc;try(exfalso;first|contradiction|omega))))
    all_goals try (exfalso; first | omega | (simp only [g1, g3, g4, g9, g10] at *; contradiction) | (simp_all; done))
    have hgd : ∀ i, i < t.ask.length → t.ask.getD i 0 = t.ask[i]! := fun i hi => by simp [List.getD_eq_getElem?_getD, hi]
    apply CW.loop [2, 3, 65, 66, 67, 68, 69, 70, 71, 72, 73, 74, 75, 76, 77, 78, 79, 80, 81, 82, 83, 84, 85, 86, 87, 88, 89, 90, 91, 92, 93, 94, 95, 96, 97, 98, 99, 100, 101, 102, 103, 104, 105] (fun i : Nat => i ≤ t.ask.length ∧ (0 < i → 1 ≤ t.ask.getD (i - 1) 0 ∧ t.ask.getD (i - 1) 0 ≤ t.seq) ∧ askOk t.seq 0 t.ask = askOk t.seq (if i = 0 then 0 else t.ask.getD (i - 1) 0) (t.ask.drop i)) (fun i => [(3, Value.int .i64 (i : Int))])
      (fun _ => St w NoF [.own b1 (.cells (t.cells a c).toArray 33 (0, 0)), rdA a (iv t.ask)]) (fun i => t.ask.length - i)
    · intro w' hw'
      exact ⟨0, ⟨by simp, fun h => absurd h (by omega), by simp⟩, ⟨rfl, trivial⟩, hw'.sub subZ⟩
    intro i g1 ⟨hi, hbd, heq⟩
    by_cases hlt : i < t.ask.length
    · obtain ⟨bg, og, rfl⟩ := hr.form (fun e => by have h2 := congrArg List.length e; simp only [iv_length, List.length_nil] at h2; omega)
      rw [List.drop_eq_getElem_cons hlt, askOk_cons] at heq
      have hnx : t.ask.getD (i + 1 - 1) 0 = t.ask[i] := by
        rw [Nat.add_sub_cancel, List.getD_eq_getElem?_getD, List.getElem?_eq_getElem hlt]
        rfl
      obtain ⟨x, hx⟩ : ∃ x, t.ask[i] = x := ⟨_, rfl⟩
      have hvx : (iv t.ask)[(i : Int).toNat * 1]? = some (.int .i64 x) := by rw [← hx]; exact iv_at (by omega) hlt
      rw [hx] at heq hnx
      by_cases h0 : i = 0
      · rw [if_pos h0] at heq
        subst h0
        repeat'(first|(apply CW.reg_heldC)|refine kv' ?_|apply jJ|refine jE' ?_|refine jp' ?_|(apply jc;kernel_rfl)|refine kg' ?_|refine kG' ?_|refine kB' fun _=>?_|refine kA' fun _=>?_|refine kK' fun _=>?_|refine kU' ?_|((first|refine kR' ?_ ?_|refine kQ' ?_ ?_);all_goals(intro hc;try simp only[hcs]at hc;try(exfalso;first|contradiction|omega))))
        all_goals (
          apply DW.quiet [0, 1, 2, 3, 4, 5, 6, 7, 8, 9, 10, 11, 12, 13, 14, 15, 16, 17, 18, 19, 20, 21, 22, 23, 24, 25, 26, 27, 28, 29, 30, 31, 32, 33]
          · decide +kernel
          · first | exact fun _ h => h | exact fun _ h => St.sub h subZ
          repeat'(first|refine yv' ?_|(apply QL.ev; (· exact rfl); (· first | (apply Ev.indexAddr; (· exact rfl); (· exact rfl); (· omega); (· omega)) | (apply Ev.load_rd; (· exact rfl); (· (repeat (first | exact mH _ _ | apply mT))); (· exact hvx))); (· exact rfl))|(apply QL.evg; (· exact rfl); (· exact rfl); (· exact rfl); (· first | (apply Ev.indexAddr; (· exact rfl); (· exact rfl); (· omega); (· omega)) | (apply Ev.load_rd; (· exact rfl); (· (repeat (first | exact mH _ _ | apply mT))); (· exact hvx))); (· exact rfl))|refine uv' ?_|refine un' ?_|(refine us' ?_ ?_;all_goals(intro hc;try simp only[hcs]at hc;try(exfalso;first|contradiction|omega)))|apply QL.nil)
          all_goals (show DW _ _ _ _ _ _ _ _))
        all_goals (first | (apply DW.done_thn; (· decide +kernel)) | (apply DW.done; (· decide +kernel)))
        repeat'(first|refine kv' ?_|apply jJ|refine jE' ?_|refine jp' ?_|(apply jc;kernel_rfl)|refine kg' ?_|refine kG' ?_|refine kB' fun _=>?_|refine kA' fun _=>?_|refine kK' fun _=>?_|refine kU' ?_|(apply addX;(iterate 2 exact rfl);(iterate 2(first|omega|(dsimp only;omega)));exact rfl)|((first|refine kR' ?_ ?_|refine kQ' ?_ ?_);all_goals(intro hc;try simp only[hcs]at hc;try(exfalso;first|contradiction|omega))))
        all_goals try (
          (apply ret1; (· exact rfl); intro w' hS)
          refine ⟨congrArg Value.bool ?_, hS.toKeep⟩
          rw [heq, decide_eq_false (by omega)]
          rfl)
        rw [decide_eq_true (by omega), Bool.true_and] at heq
        refine At.again (0 + 1) ⟨by omega, fun _ => by rw [hnx]; omega, by rw [if_neg (by omega), hnx]; exact heq⟩ ?_ ⟨rfl, trivial⟩ (fun w' hw' => hw') (by omega)
        (repeat (first | exact Out.refl _ _ | exact Out.mix | (apply Out.upd; (· exact rfl)) | (apply Out.updL; (· exact rfl)) | (apply Out.mixs; (· exact rfl))))
      · rw [if_neg h0] at heq
        have hb2 := hbd (by omega)
        obtain ⟨y, hy⟩ : ∃ y, t.ask.getD (i - 1) 0 = y := ⟨_, rfl⟩
        rw [hy] at heq hb2
        have hvy : (iv t.ask)[((i : Int) - 1).toNat * 1]? = some (.int .i64 y) := by
          rw [← hy, show ((i : Int) - 1).toNat * 1 = i - 1 by omega, iv_get (by omega), List.getD_eq_getElem?_getD, List.getElem?_eq_getElem (by omega)]
          rfl
        repeat'(first|(apply CW.reg_heldC)|refine kv' ?_|apply jJ|refine jE' ?_|refine jp' ?_|(apply jc;kernel_rfl)|refine kg' ?_|refine kG' ?_|refine kB' fun _=>?_|refine kA' fun _=>?_|refine kK' fun _=>?_|refine kU' ?_|((first|refine kR' ?_ ?_|refine kQ' ?_ ?_);all_goals(intro hc;try simp only[hcs]at hc;try(exfalso;first|contradiction|omega))))
        all_goals (
          apply DW.quiet [0, 1, 2, 3, 4, 5, 6, 7, 8, 9, 10, 11, 12, 13, 14, 15, 16, 17, 18, 19, 20, 21, 22, 23, 24, 25, 26, 27, 28, 29, 30, 31, 32, 33]
          · decide +kernel
          · first | exact fun _ h => h | exact fun _ h => St.sub h subZ
          repeat'(first|refine yv' ?_|(apply QL.ev; (· exact rfl); (· first | (apply Ev.indexAddr; (· exact rfl); (· exact rfl); (· omega); (· omega)) | (apply Ev.load_rd; (· exact rfl); (· (repeat (first | exact mH _ _ | apply mT))); (· first | exact hvx | exact hvy)) | (apply Ev.sub; (· exact rfl); (· exact rfl); (· omega); (· omega))); (· exact rfl))|(apply QL.evg; (· exact rfl); (· exact rfl); (· exact rfl); (· first | (apply Ev.indexAddr; (· exact rfl); (· exact rfl); (· omega); (· omega)) | (apply Ev.load_rd; (· exact rfl); (· (repeat (first | exact mH _ _ | apply mT))); (· first | exact hvx | exact hvy)) | (apply Ev.sub; (· exact rfl); (· exact rfl); (· omega); (· omega))); (· exact rfl))|refine uv' ?_|refine un' ?_|(refine us' ?_ ?_;all_goals(intro hc;try simp only[hcs]at hc;try(exfalso;first|contradiction|omega)))|apply QL.nil)
          all_goals (show DW _ _ _ _ _ _ _ _))
        all_goals (first | (apply DW.done_thn; (· decide +kernel)) | (apply DW.done; (· decide +kernel)))
        repeat'(first|refine kv' ?_|apply jJ|refine jE' ?_|refine jp' ?_|(apply jc;kernel_rfl)|refine kg' ?_|refine kG' ?_|refine kB' fun _=>?_|refine kA' fun _=>?_|refine kK' fun _=>?_|refine kU' ?_|(apply addX;(iterate 2 exact rfl);(iterate 2(first|omega|(dsimp only;omega)));exact rfl)|((first|refine kR' ?_ ?_|refine kQ' ?_ ?_);all_goals(intro hc;try simp only[hcs]at hc;try(exfalso;first|contradiction|omega))))
        all_goals try (
          (apply ret1; (· exact rfl); intro w' hS)
          refine ⟨congrArg Value.bool ?_, hS.toKeep⟩
          rw [heq, decide_eq_false (by omega)]
          rfl)
        rw [decide_eq_true (by omega), Bool.true_and] at heq
        refine At.again (i + 1) ⟨by omega, fun _ => by rw [hnx]; omega, by rw [if_neg (by omega), hnx]; exact heq⟩ ?_ ⟨rfl, trivial⟩ (fun w' hw' => hw') (by omega)
        (repeat (first | exact Out.refl _ _ | exact Out.mix | (apply Out.upd; (· exact rfl)) | (apply Out.updL; (· exact rfl)) | (apply Out.mixs; (· exact rfl))))
    · have hie : i = t.ask.length := by omega
      subst hie
      rw [List.drop_length] at heq
      repeat'(first|refine kv' ?_|apply jJ|refine jE' ?_|refine jp' ?_|(apply jc;kernel_rfl)|refine kg' ?_|refine kG' ?_|refine kB' fun _=>?_|refine kA' fun _=>?_|refine kK' fun _=>?_|refine kU' ?_|((first|refine kR' ?_ ?_|refine kQ' ?_ ?_);all_goals(intro hc;try simp only[hcs]at hc;try(exfalso;first|contradiction|omega))))
      (apply ret1; (· exact rfl); intro w' hS)
      exact ⟨congrArg Value.bool heq.symm, hS.toKeep⟩
theorem entOk_iff (e : Ent) (n : Int) : entOk e n = true ↔ (e.node = n ∧ liveR e.o1 e.o2 = true ∧ 0 ≤ e.aru ∧ e.aru ≤ e.high ∧ numB e.high = true ∧ numB e.clock = true) := by
  unfold entOk numB
  simp only [Bool.and_eq_true, List.all_cons, List.all_nil, and_true, decide_eq_true_eq]
  constructor
  · rintro ⟨⟨⟨h1, h2⟩, h3, h4, h5⟩, h6⟩
    exact ⟨h1, h2, by omega, h6, h4, h5⟩
  · rintro ⟨h1, h2, h3, h4, h5, h6⟩
    exact ⟨⟨⟨h1, h2⟩, by omega, h5, h6⟩, h4⟩
set_option maxHeartbeats 8000000 in
theorem e51 (x : Cmt) (to : Int) (a : Option Addr) (c : Nat) (w : World) (hr : Rd w a (x.ents.flatMap Ent.cells)) :
    CallsTo Tryz.prog 51 [x.val a c, .int .i64 to] w fun v w' => v = .bool (mayCm x to) ∧ Grew w w' := by
  refine go_in (n := 118) (St.rd1 hr) Tryz.func51 rfl rfl ?_
  cases hh : comHead x
  · have hmt : mayCm x to = false := by unfold mayCm; rw [hh]; rfl
    rw [hmt]
    repeat'(first|(apply kB;(iterate 2 exact rfl);intro b1)|refine kv' ?_|apply jJ|refine jE' ?_|refine jp' ?_|(apply jc;kernel_rfl)|refine kg' ?_|refine kG' ?_|refine kB' fun _=>?_|refine kA' fun _=>?_|refine kK' fun _=>?_|refine kU' ?_|(apply kq; (· exact rfl); (· intro w1 h1; first | exact CallsTo.q (q83 x.mem w1) h1 | exact CallsTo.q (e44 x.r1 x.r2 w1) h1))|((first|refine kR' ?_ ?_|refine kQ' ?_ ?_);all_goals(intro hc;try simp only[hcs]at hc;try(exfalso;first|contradiction|omega))))
    all_goals try (exfalso; unfold comHead at hh; simp_all; done)
    all_goals (
      (apply ret1; (· exact rfl); intro w' hS)
      exact ⟨rfl, hS.toKeep⟩)
  · have hh' := hh
    unfold comHead at hh'
    simp only [Bool.and_eq_true, Bool.not_eq_true', decide_eq_false_iff_not] at hh'
    obtain ⟨⟨hck, hm0⟩, hlv⟩ := hh'
    have hlp := crewL_pos hck hm0
    have hl8 : (crewL x.mem).length ≤ 8 := crewTo_len x.mem 8
    have hq61 : (if crewOk x.mem = true then (0 : Int) else 2) = 0 := by rw [if_pos hck]
    have hmt : mayCm x to = (comMid x to (crewL x.mem) && entsOk x.ents (crewL x.mem)) := by unfold mayCm; rw [hh]; rfl
    rw [hmt]
    repeat'(first|(apply kB;(iterate 2 exact rfl);intro b1)|refine kv' ?_|apply jJ|refine jE' ?_|refine jp' ?_|(apply jc;kernel_rfl)|refine kg' ?_|refine kG' ?_|refine kB' fun _=>?_|refine kA' fun _=>?_|refine kK' fun _=>?_|refine kU' ?_|(apply kq; (· exact rfl); (· intro w1 h1; first | (have hq := CallsTo.q (q83 x.mem w1) h1; rw [hq61] at hq; exact hq) | (have hq := CallsTo.q (e44 x.r1 x.r2 w1) h1; rw [hlv] at hq; exact hq)))|((first|refine kR' ?_ ?_|refine kQ' ?_ ?_);all_goals(intro hc;try simp only[hcs]at hc;try(exfalso;first|contradiction|omega))))
    apply LR.call
    · exact rfl
    intro w1 h1
    refine (q109 x.mem w1).mono ?_
    rintro v w2 ⟨a2, c2, rfl, hn⟩
    obtain ⟨l, hl⟩ : ∃ l, crewL x.mem = l := ⟨_, rfl⟩
    rw [hl] at hn hlp hl8 ⊢
    obtain ⟨bg, og, rfl⟩ := (ownsRow_rd (ownsRow_zero hn.own)).form (fun e => by have h2 := congrArg List.length e; simp only [iv_length, List.length_nil] at h2; omega)
    refine LR.back (h1.newSl hn) ?_
    clear hn h1
    have hl0 : (iv l)[(0 : Int).toNat * 1]? = some (.int .i64 (l.getD 0 0)) := by
      rw [show (0 : Int).toNat * 1 = 0 from rfl, iv_get hlp, List.getD_eq_getElem?_getD, List.getElem?_eq_getElem hlp]
      rfl
    have htm : 1 ≤ x.hop → 0 ≤ x.hop.tmod (l.length : Int) ∧ x.hop.tmod (l.length : Int) < (l.length : Int) := fun h => ⟨Int.tmod_nonneg _ (by omega), (tmod_bdP x.hop l.length (by omega)).2⟩
    have hlk : 1 ≤ x.hop → (iv l)[(x.hop.tmod (l.length : Int)).toNat * 1]? = some (.int .i64 (l.getD (x.hop.tmod (l.length : Int)).toNat 0)) := fun h => by
      have h2 := htm h
      rw [Nat.mul_one, iv_get (by omega), List.getD_eq_getElem?_getD, List.getElem?_eq_getElem (by omega)]
      rfl
    repeat'(first|(apply CW.reg_heldC)|refine kv' ?_|apply jJ|refine jE' ?_|refine jp' ?_|(apply jc;kernel_rfl)|refine kg' ?_|refine kG' ?_|refine kB' fun _=>?_|refine kA' fun _=>?_|refine kK' fun _=>?_|refine kU' ?_|((first|refine kR' ?_ ?_|refine kQ' ?_ ?_);all_goals(intro hc;try simp only[hcs]at hc;try(exfalso;first|contradiction|omega))))
    all_goals (
      apply DW.quiet [0, 1, 2, 3, 4, 5, 6, 7, 8, 9, 10, 11, 12, 13, 14, 15, 16, 17, 18, 19, 20, 21, 22, 23, 24, 25, 26, 27, 28, 29, 30, 31, 32, 33, 34, 35, 36, 37, 38, 39]
      · decide +kernel
      · first | exact fun _ h => h | exact fun _ h => St.sub h subZ
      repeat'(first|refine yv' ?_|(apply QL.ev; (· exact rfl); (· first | (apply Ev.indexAddr; (· exact rfl); (· exact rfl); (· omega); (· omega)) | (apply Ev.load_osl; (· exact rfl); (· (repeat (first | exact mH _ _ | apply mT))); (· first | exact hl0 | exact hlk (by omega))) | (apply Ev.rem; (· exact rfl); (· exact rfl); (· omega)) | (apply Ev.mul; (· exact rfl); (· exact rfl); (· omega); (· omega)) | (exact Ev.min2 rfl rfl)); (· exact rfl))|(apply QL.evg; (· exact rfl); (· exact rfl); (· exact rfl); (· first | (apply Ev.indexAddr; (· exact rfl); (· exact rfl); (· have := htm (by omega); omega); (· have := htm (by omega); omega)) | (apply Ev.load_osl; (· exact rfl); (· (repeat (first | exact mH _ _ | apply mT))); (· first | exact hl0 | exact hlk (by omega))) | (apply Ev.rem; (· exact rfl); (· exact rfl); (· omega)) | (apply Ev.mul; (· exact rfl); (· exact rfl); (· omega); (· omega)) | (exact Ev.min2 rfl rfl)); (· exact rfl))|refine uv' ?_|refine un' ?_|(refine us' ?_ ?_;all_goals(intro hc;try simp only[hcs]at hc;try(exfalso;first|contradiction|omega)))|apply QL.nil)
      all_goals (show DW _ _ _ _ _ _ _ _))
    all_goals (first | (apply DW.done_thn; (· decide +kernel)) | (apply DW.done; (· decide +kernel)))
    repeat'(first|refine kv' ?_|apply jJ|refine jE' ?_|refine jp' ?_|(apply jc;kernel_rfl)|refine kg' ?_|refine kG' ?_|refine kB' fun _=>?_|refine kA' fun _=>?_|refine kK' fun _=>?_|refine kU' ?_|((first|refine kR' ?_ ?_|refine kQ' ?_ ?_);all_goals(intro hc;try simp only[hcs]at hc;try(exfalso;first|contradiction|omega))))
    all_goals try (
      (apply ret1; (· exact rfl); intro w' hS)
      refine ⟨congrArg Value.bool ?_, hS.toKeep⟩
      cases hcm : comMid x to l
      · rfl
      · exfalso
        unfold comMid minE at hcm
        simp only [Bool.and_eq_true, decide_eq_true_eq] at hcm
        obtain ⟨⟨⟨g1, g2⟩, g3⟩, g4⟩ := hcm
        first | exact absurd g1 (by assumption) | (exfalso; omega) | exact absurd g3 (by assumption) | exact absurd g4 (by assumption))
    have hcm : comMid x to l = true := by
      unfold comMid minE
      simp only [Bool.and_eq_true, decide_eq_true_eq]
      exact ⟨⟨⟨by assumption, by omega⟩, by assumption⟩, by assumption⟩
    have hel : x.ents.length ≤ l.length ∧ x.ents.length ≤ 1000 := by
      unfold comMid minE at hcm
      simp only [Bool.and_eq_true, decide_eq_true_eq] at hcm
      have := hcm.1.2
      split at this <;> omega
    rw [hcm, Bool.true_and]
    apply CW.loop [4, 7, 8, 69, 70, 71, 72, 73, 74, 75, 76, 77, 78, 79, 80, 81, 82, 83, 84, 85, 86, 87, 88, 89, 90, 91, 92, 93, 94, 95, 96, 97, 98, 99, 100, 101, 102, 103, 104, 105, 106, 107, 108, 109, 110, 111, 112, 113, 114, 115, 116, 117] (fun i : Nat => i ≤ x.ents.length ∧ entsOk x.ents l = entsOk (x.ents.drop i) (l.drop i)) (fun i => [(7, Value.int .i64 (i : Int))])
      (fun _ => St w NoF [osl (.slice (some ⟨bg, og, none⟩) l.length c2) 3 1 l.length (iv l), .own b1 (.cells (x.cells a c).toArray 38 (0, 0)), rdA a (x.ents.flatMap Ent.cells)]) (fun i => x.ents.length - i)
    · intro w' hw'
      exact ⟨0, ⟨by simp, by simp⟩, ⟨rfl, trivial⟩, hw'.sub subZ⟩
    intro i g1 ⟨hi, heq⟩
    by_cases hlt : i < x.ents.length
    · have hil : i < l.length := by omega
      obtain ⟨be, oe, rfl⟩ := hr.form (rows_ne Ent.cells_len (by omega) hlt)
      rw [List.drop_eq_getElem_cons hlt, List.drop_eq_getElem_cons hil, entsOk_cons] at heq
      obtain ⟨e, he⟩ : ∃ e, x.ents[i] = e := ⟨_, rfl⟩
      have hcl : ∀ w', Rd w' (some ⟨be, oe, none⟩) (x.ents.flatMap Ent.cells) → ∀ j v, e.cells[j]? = some v → w'.cell? ((⟨be, oe + (i : Int).toNat * 6, none⟩ : Addr).add j) = some v := fun w' h => by
        rw [← he]
        exact rd_row Ent.cells_len h hlt (by omega)
      rw [he] at heq
      have hnv : (iv l)[(i : Int).toNat * 1]? = some (.int .i64 l[i]) := iv_at (by omega) hil
      obtain ⟨n, hn⟩ : ∃ n, l[i] = n := ⟨_, rfl⟩
      rw [hn] at hnv heq
      repeat'(first|(apply CW.reg_heldC)|refine kv' ?_|apply jJ|refine jE' ?_|refine jp' ?_|(apply jc;kernel_rfl)|refine kg' ?_|refine kG' ?_|refine kB' fun _=>?_|refine kA' fun _=>?_|refine kK' fun _=>?_|refine kU' ?_|(apply idxX;(iterate 2 exact rfl);(iterate 2(first|omega|(dsimp only;omega)));exact rfl)|(apply LR.ev; (· apply Ev.load_agg_at (cs := e.cells); (· exact rfl); (· exact rfl); (· intro w' hw'; exact hcl w' (hw'.rd_of memZ))); (· exact rfl))|((first|refine kR' ?_ ?_|refine kQ' ?_ ?_);all_goals(intro hc;try simp only[hcs]at hc;try(exfalso;first|contradiction|omega))))
      all_goals (
        apply DW.quiet [0, 1, 2, 3, 4, 5, 6, 7, 8, 9]
        · decide +kernel
        · first | exact fun _ h => h | exact fun _ h => St.sub h subZ
        repeat'(first|refine yv' ?_|(apply QL.ev; (· exact rfl); (· first | (apply Ev.indexAddr; (· exact rfl); (· exact rfl); (· omega); (· omega)) | (apply Ev.load_osl; (· exact rfl); (· (repeat (first | exact mH _ _ | apply mT))); (· exact hnv))); (· exact rfl))|refine uv' ?_|refine un' ?_|(refine us' ?_ ?_;all_goals(intro hc;try simp only[hcs]at hc;try(exfalso;first|contradiction|omega)))|apply QL.nil)
        all_goals (show DW _ _ _ _ _ _ _ _))
      all_goals (
        apply DW.loud 10
        · exact rfl
        · decide +kernel
        repeat'(first|refine kg' ?_|refine kG' ?_|apply kM|refine kv' ?_|refine kK' fun _=>?_|refine kU' ?_|refine kB' fun _=>?_|refine kA' fun _=>?_|(apply kq; (· exact rfl); (· intro w1 h1; first | exact CallsTo.q (e44 e.o1 e.o2 w1) h1 | exact CallsTo.q (e45 _ w1) h1)))
        all_goals (refine At.stage_same (fun _ h => St.sub h subZ) ?_))
      all_goals (
        apply DW.quiet [11, 12, 13, 14, 15, 16, 17, 18, 19, 20, 21, 22, 23, 24, 25, 26, 27]
        · decide +kernel
        · first | exact fun _ h => h | exact fun _ h => St.sub h subZ
        repeat'(first|refine yv' ?_|(apply QL.ev; (· exact rfl); (· first | (apply Ev.indexAddr; (· exact rfl); (· exact rfl); (· omega); (· omega)) | (apply Ev.load_osl; (· exact rfl); (· (repeat (first | exact mH _ _ | apply mT))); (· exact hnv))); (· exact rfl))|refine uv' ?_|refine un' ?_|(refine us' ?_ ?_;all_goals(intro hc;try simp only[hcs]at hc;try(exfalso;first|contradiction|omega)))|apply QL.nil)
        all_goals (show DW _ _ _ _ _ _ _ _))
      all_goals (
        apply DW.loud 28
        · exact rfl
        · decide +kernel
        repeat'(first|refine kg' ?_|refine kG' ?_|apply kM|refine kv' ?_|refine kK' fun _=>?_|refine kU' ?_|refine kB' fun _=>?_|refine kA' fun _=>?_|(apply kq; (· exact rfl); (· intro w1 h1; first | exact CallsTo.q (e44 e.o1 e.o2 w1) h1 | exact CallsTo.q (e45 _ w1) h1)))
        all_goals (refine At.stage_same (fun _ h => St.sub h subZ) ?_))
      all_goals (
        apply DW.quiet [29, 30, 31, 32, 33]
        · decide +kernel
        · first | exact fun _ h => h | exact fun _ h => St.sub h subZ
        repeat'(first|refine yv' ?_|(apply QL.ev; (· exact rfl); (· first | (apply Ev.indexAddr; (· exact rfl); (· exact rfl); (· omega); (· omega)) | (apply Ev.load_osl; (· exact rfl); (· (repeat (first | exact mH _ _ | apply mT))); (· exact hnv))); (· exact rfl))|refine uv' ?_|refine un' ?_|(refine us' ?_ ?_;all_goals(intro hc;try simp only[hcs]at hc;try(exfalso;first|contradiction|omega)))|apply QL.nil)
        all_goals (show DW _ _ _ _ _ _ _ _))
      all_goals (
        apply DW.loud 34
        · exact rfl
        · decide +kernel
        repeat'(first|refine kg' ?_|refine kG' ?_|apply kM|refine kv' ?_|refine kK' fun _=>?_|refine kU' ?_|refine kB' fun _=>?_|refine kA' fun _=>?_|(apply kq; (· exact rfl); (· intro w1 h1; first | exact CallsTo.q (e44 e.o1 e.o2 w1) h1 | exact CallsTo.q (e45 _ w1) h1)))
        all_goals (refine At.stage_same (fun _ h => St.sub h subZ) ?_))
      all_goals (
        apply DW.quiet [35, 36]
        · decide +kernel
        · first | exact fun _ h => h | exact fun _ h => St.sub h subZ
        repeat'(first|refine yv' ?_|(apply QL.ev; (· exact rfl); (· first | (apply Ev.indexAddr; (· exact rfl); (· exact rfl); (· omega); (· omega)) | (apply Ev.load_osl; (· exact rfl); (· (repeat (first | exact mH _ _ | apply mT))); (· exact hnv))); (· exact rfl))|refine uv' ?_|refine un' ?_|(refine us' ?_ ?_;all_goals(intro hc;try simp only[hcs]at hc;try(exfalso;first|contradiction|omega)))|apply QL.nil)
        all_goals (show DW _ _ _ _ _ _ _ _))
      all_goals (first | (apply DW.done_thn; (· decide +kernel)) | (apply DW.done; (· decide +kernel)))
      repeat'(first|refine kv' ?_|apply jJ|refine jE' ?_|refine jp' ?_|(apply jc;kernel_rfl)|refine kg' ?_|refine kG' ?_|refine kB' fun _=>?_|refine kA' fun _=>?_|refine kK' fun _=>?_|refine kU' ?_|(apply addX;(iterate 2 exact rfl);(iterate 2(first|omega|(dsimp only;omega)));exact rfl)|((first|refine kR' ?_ ?_|refine kQ' ?_ ?_);all_goals(intro hc;try simp only[hcs]at hc;try(exfalso;first|contradiction|omega))))
      all_goals try (
        (apply ret1; (· exact rfl); intro w' hS)
        refine ⟨congrArg Value.bool ?_, hS.toKeep⟩
        rw [heq]
        cases hen : entOk e n
        · rfl
        · exfalso
          obtain ⟨y1, y2, y3, y4, y5, y6⟩ := (entOk_iff e n).1 hen
          first | contradiction | omega | (rw [hc] at y2; cases y2) | (rw [hc] at y5; cases y5) | (rw [hc] at y6; cases y6))
      have hen : entOk e n = true := (entOk_iff e n).2 ⟨by assumption, by assumption, by assumption, by assumption, by assumption, by assumption⟩
      rw [hen, Bool.true_and] at heq
      refine At.again (i + 1) ⟨by omega, heq⟩ ?_ ⟨rfl, trivial⟩ (fun w' hw' => hw'.sub subZ) (by omega)
      (repeat (first | exact Out.refl _ _ | exact Out.mix | (apply Out.upd; (· exact rfl)) | (apply Out.updL; (· exact rfl)) | (apply Out.mixs; (· exact rfl))))
    · have hie : i = x.ents.length := by omega
      subst hie
      rw [List.drop_length] at heq
      repeat'(first|refine kv' ?_|apply jJ|refine jE' ?_|refine jp' ?_|(apply jc;kernel_rfl)|refine kg' ?_|refine kG' ?_|refine kB' fun _=>?_|refine kA' fun _=>?_|refine kK' fun _=>?_|refine kU' ?_|((first|refine kR' ?_ ?_|refine kQ' ?_ ?_);all_goals(intro hc;try simp only[hcs]at hc;try(exfalso;first|contradiction|omega))))
      (apply ret1; (· exact rfl); intro w' hS)
      exact ⟨congrArg Value.bool heq.symm, hS.toKeep⟩
end Go.Proofs.YtkolmkdbjagfcaaGreat

namespace Go.Proofs.YtkolmkdbjagfcaaGreat
open Go.Hb
attribute [local irreducible] LR CW At Ev thn blk finK noG again CallsTo DW QL dnext TW DP
set_option maxRecDepth 100000

theorem ne_two {a b : Int} (h : 1 ≤ a) : ¬ [a, b] = [0, 0] := fun e => by simp only [List.cons.injEq] at e; omega
theorem own_shape {p : Pkt} (h : mayP p = true) : (p.kind = 1 → dataS p.d = true) ∧ (p.kind = 2 → tokS p.t = true) ∧ (p.kind = 3 → joinS p = true) ∧ (p.kind = 4 → comS p.c = true) ∧ (p.kind = 5 → beaS p = true) := by
  unfold mayP at h
  refine ⟨fun k => ?_, fun k => ?_, fun k => ?_, fun k => ?_, fun k => ?_⟩
  · rw [if_pos k] at h
    unfold mayD at h
    simp only [Bool.and_eq_true] at h
    have h1 := (live_ok h.2.1.1.1.1).2.2.1
    unfold dataS
    rw [decide_eq_false (ne_two h1)]
    simp
  · rw [if_neg (by omega), if_pos k] at h
    unfold mayT tokHead at h
    simp only [Bool.and_eq_true] at h
    have h1 := (live_ok h.2.1.1.1.1.1.1).2.2.1
    unfold tokS
    rw [decide_eq_false (ne_two h1)]
    simp
  · rw [if_neg (by omega), if_neg (by omega), if_pos k] at h
    simp only [Bool.and_eq_true] at h
    have h1 := (node_ok h.1.1.1.2).1
    unfold joinS
    have h2 : ¬ [p.j1, p.j2, p.j3] = [0, 0, 0] := fun e => by simp only [List.cons.injEq] at e; omega
    rw [decide_eq_false h2]
    rfl
  · rw [if_neg (by omega), if_neg (by omega), if_neg (by omega), if_pos k] at h
    unfold mayCm comHead at h
    simp only [Bool.and_eq_true] at h
    have h1 := (live_ok h.1.1.2).2.2.1
    unfold comS
    rw [decide_eq_false (ne_two h1)]
    simp
  · rw [if_neg (by omega), if_neg (by omega), if_neg (by omega), if_neg (by omega), if_pos k] at h
    simp only [Bool.and_eq_true] at h
    have h1 := (live_ok h.1.2).2.2.1
    unfold beaS
    have h2 : ¬ [p.b1, p.b2, p.b3] = [0, 0, 0] := fun e => by simp only [List.cons.injEq] at e; omega
    rw [decide_eq_false h2]
    rfl
theorem chk_kept (p : Pkt) : chkP p = (mayP p && keptB p) := by
  unfold chkP
  cases hm : mayP p
  · rfl
  rw [Bool.true_and, Bool.true_and]
  obtain ⟨h1, h2, h3, h4, h5⟩ := own_shape hm
  rw [Bool.eq_iff_iff]
  rcases may_kinds hm with h | h | h | h | h
  · simp [shapeB, wantK, keptB, h, h1 h, and_assoc]
  · simp [shapeB, wantK, keptB, h, h2 h, and_assoc]
  · simp [shapeB, wantK, keptB, h, h3 h, and_assoc]
  · simp [shapeB, wantK, keptB, h, h4 h, and_assoc]
  · simp [shapeB, wantK, keptB, h, h5 h, and_assoc]
theorem kept_yes {p : Pkt} (h : keptB p = true) (hm : mayP p = true) : (0 : Int) = if chkP p then 0 else 2 := by rw [chk_kept, h, hm]; rfl
theorem kept_no {p : Pkt} (hm : mayP p = false) : (2 : Int) = if chkP p then 0 else 2 := by rw [chk_kept, hm]; rfl
theorem kept_no2 {p : Pkt} (h : keptB p = false) : (2 : Int) = if chkP p then 0 else 2 := by rw [chk_kept, h, Bool.and_false]; rfl
theorem may1_iff {p : Pkt} (k : p.kind = 1) : mayP p = true ↔ (p.to = 0 ∧ liveR p.d.rseq p.d.rrep = true ∧ 1 ≤ p.d.seq ∧ numB p.d.seq = true ∧ nodeB p.d.sender = true ∧ numB p.d.stamp = true ∧ check p.d.msg = 0) := by
  unfold mayP
  rw [if_pos k]
  unfold mayD
  simp only [Bool.and_eq_true, List.all_cons, List.all_nil, and_true, decide_eq_true_eq]
  constructor
  · rintro ⟨h1, ⟨⟨⟨h2, h3⟩, h4, h5⟩, h6⟩, h7⟩
    exact ⟨h1, h2, by omega, h4, h6, h5, h7⟩
  · rintro ⟨h1, h2, h3, h4, h5, h6, h7⟩
    exact ⟨h1, ⟨⟨⟨h2, by omega⟩, h4, h6⟩, h5⟩, h7⟩
set_option maxHeartbeats 16000000 in
theorem e10 (p : Pkt) (A : PAd) (w : World) (hR : PktR w p A) : CallsTo Tryz.prog 10 [p.val A] w fun v w' => v = .int .i64 (if chkP p then 0 else 2) ∧ Grew w w' := by
  refine go_in (n := 117) (St.refl _ NoF) Tryz.func10 rfl rfl ?_
  cases hkb : keptB p
  · repeat'(first|(apply kB;(iterate 2 exact rfl);intro b1)|(apply CW.reg_heldC)|refine kv' ?_|apply jJ|refine jE' ?_|refine jp' ?_|(apply jc;kernel_rfl)|refine kg' ?_|refine kG' ?_|refine kB' fun _=>?_|refine kA' fun _=>?_|refine kK' fun _=>?_|refine kU' ?_|((first|refine kR' ?_ ?_|refine kQ' ?_ ?_);all_goals(intro hc;try simp only[hcs]at hc;try(exfalso;first|contradiction|omega))))
    all_goals (
      apply DW.quiet [0, 1]
      · decide +kernel
      · first | exact fun _ h => h | exact fun _ h => St.sub h subZ
      repeat'(first|refine yv' ?_|refine uv' ?_|refine un' ?_|(refine us' ?_ ?_;all_goals(intro hc;try simp only[hcs]at hc;try(exfalso;first|contradiction|omega)))|apply QL.nil)
      all_goals (show DW _ _ _ _ _ _ _ _))
    all_goals (
      apply DW.loud 2
      · exact rfl
      · decide +kernel
      repeat'(first|refine kg' ?_|refine kG' ?_|apply kM|refine kv' ?_|refine kK' fun _=>?_|refine kU' ?_|refine kB' fun _=>?_|refine kA' fun _=>?_|(apply kq; (· exact rfl); (· intro w1 h1; first | exact CallsTo.q (e43 p A w1) h1 | (have hq := CallsTo.q (e12 p (keptP p) A (keptA p A) w1 (hR.old h1).toS (kept_S (hR.old h1).toS)) h1; rw [same_kept, hkb] at hq; exact hq))))
      all_goals (refine At.stage_same (fun _ h => St.sub h subZ) ?_))
    all_goals (
      apply DW.loud 3
      · exact rfl
      · decide +kernel
      repeat'(first|refine kg' ?_|refine kG' ?_|apply kM|refine kv' ?_|refine kK' fun _=>?_|refine kU' ?_|refine kB' fun _=>?_|refine kA' fun _=>?_|(apply kq; (· exact rfl); (· intro w1 h1; first | exact CallsTo.q (e43 p A w1) h1 | (have hq := CallsTo.q (e12 p (keptP p) A (keptA p A) w1 (hR.old h1).toS (kept_S (hR.old h1).toS)) h1; rw [same_kept, hkb] at hq; exact hq))))
      all_goals (refine At.stage_same (fun _ h => St.sub h subZ) ?_))
    all_goals (
      apply DW.quiet [4]
      · decide +kernel
      · first | exact fun _ h => h | exact fun _ h => St.sub h subZ
      repeat'(first|refine yv' ?_|refine uv' ?_|refine un' ?_|(refine us' ?_ ?_;all_goals(intro hc;try simp only[hcs]at hc;try(exfalso;first|contradiction|omega)))|apply QL.nil)
      all_goals (show DW _ _ _ _ _ _ _ _))
    all_goals (first | (apply DW.done_thn; (· decide +kernel)) | (apply DW.done; (· decide +kernel)))
    repeat'(first|refine kv' ?_|apply jJ|refine jE' ?_|refine jp' ?_|(apply jc;kernel_rfl)|refine kg' ?_|refine kG' ?_|refine kB' fun _=>?_|refine kA' fun _=>?_|refine kK' fun _=>?_|refine kU' ?_|((first|refine kR' ?_ ?_|refine kQ' ?_ ?_);all_goals(intro hc;try simp only[hcs]at hc;try(exfalso;first|contradiction|omega))))
    (apply ret1; (· exact rfl); intro w' hS)
    exact ⟨congrArg (Value.int .i64) (kept_no2 hkb), hS.toKeep⟩
  repeat'(first|(apply kB;(iterate 2 exact rfl);intro b1)|(apply CW.reg_heldC)|refine kv' ?_|apply jJ|refine jE' ?_|refine jp' ?_|(apply jc;kernel_rfl)|refine kg' ?_|refine kG' ?_|refine kB' fun _=>?_|refine kA' fun _=>?_|refine kK' fun _=>?_|refine kU' ?_|((first|refine kR' ?_ ?_|refine kQ' ?_ ?_);all_goals(intro hc;try simp only[hcs]at hc;try(exfalso;first|contradiction|omega))))
  all_goals (
    apply DW.quiet [0, 1]
    · decide +kernel
    · first | exact fun _ h => h | exact fun _ h => St.sub h subZ
    repeat'(first|refine yv' ?_|refine uv' ?_|refine un' ?_|(refine us' ?_ ?_;all_goals(intro hc;try simp only[hcs]at hc;try(exfalso;first|contradiction|omega)))|apply QL.nil)
    all_goals (show DW _ _ _ _ _ _ _ _))
  all_goals (
    apply DW.loud 2
    · exact rfl
    · decide +kernel
    repeat'(first|refine kg' ?_|refine kG' ?_|apply kM|refine kv' ?_|refine kK' fun _=>?_|refine kU' ?_|refine kB' fun _=>?_|refine kA' fun _=>?_|(apply kq; (· exact rfl); (· intro w1 h1; first | exact CallsTo.q (e43 p A w1) h1 | (have hq := CallsTo.q (e12 p (keptP p) A (keptA p A) w1 (hR.old h1).toS (kept_S (hR.old h1).toS)) h1; rw [same_kept, hkb] at hq; exact hq))))
    all_goals (refine At.stage_same (fun _ h => St.sub h subZ) ?_))
  all_goals (
    apply DW.loud 3
    · exact rfl
    · decide +kernel
    repeat'(first|refine kg' ?_|refine kG' ?_|apply kM|refine kv' ?_|refine kK' fun _=>?_|refine kU' ?_|refine kB' fun _=>?_|refine kA' fun _=>?_|(apply kq; (· exact rfl); (· intro w1 h1; first | exact CallsTo.q (e43 p A w1) h1 | (have hq := CallsTo.q (e12 p (keptP p) A (keptA p A) w1 (hR.old h1).toS (kept_S (hR.old h1).toS)) h1; rw [same_kept, hkb] at hq; exact hq))))
    all_goals (refine At.stage_same (fun _ h => St.sub h subZ) ?_))
  all_goals (
    apply DW.quiet [4]
    · decide +kernel
    · first | exact fun _ h => h | exact fun _ h => St.sub h subZ
    repeat'(first|refine yv' ?_|refine uv' ?_|refine un' ?_|(refine us' ?_ ?_;all_goals(intro hc;try simp only[hcs]at hc;try(exfalso;first|contradiction|omega)))|apply QL.nil)
    all_goals (show DW _ _ _ _ _ _ _ _))
  all_goals (first | (apply DW.done_thn; (· decide +kernel)) | (apply DW.done; (· decide +kernel)))
  by_cases hk1 : p.kind = 1
  · have hm : mayP p = (decide (p.to = 0) && mayD p.d) := by
      unfold mayP
      rw [if_pos hk1]
    repeat'(first|refine kv' ?_|apply jJ|refine jE' ?_|refine jp' ?_|(apply jc;kernel_rfl)|refine kg' ?_|refine kG' ?_|refine kB' fun _=>?_|refine kA' fun _=>?_|refine kK' fun _=>?_|refine kU' ?_|(apply kq; (· exact rfl); (· intro w1 h1; first | exact CallsTo.q (e44 p.d.rseq p.d.rrep w1) h1 | exact CallsTo.q (e45 _ w1) h1 | exact CallsTo.q (e46 _ w1) h1 | exact CallsTo.q (show CallsTo Tryz.prog 47 [p.d.msg.val A.da A.dc] w1 _ from d18 p.d.msg A.da A.dc w1 (hR.old h1).hd hR.hdz (by have := hR.hdm; omega) hR.hdb) h1))|((first|refine kR' ?_ ?_|refine kQ' ?_ ?_);all_goals(intro hc;try simp only[hcs]at hc;try(exfalso;first|contradiction|omega))))
    all_goals (
      (apply ret1; (· exact rfl); intro w' hS)
      refine ⟨congrArg (Value.int .i64) ?_, hS.toKeep⟩
      first
        | (refine kept_no ?_; cases hx : mayP p; (· rfl); exfalso; obtain ⟨y1, y2, y3, y4, y5, y6, y7⟩ := (may1_iff hk1).1 hx; first | contradiction | omega | (rw [hc] at y2; cases y2) | (rw [hc] at y4; cases y4) | (rw [hc] at y5; cases y5) | (rw [hc] at y6; cases y6))
        | (refine kept_yes hkb ((may1_iff hk1).2 ⟨by assumption, by assumption, by assumption, by assumption, by assumption, by assumption, by assumption⟩)))
  by_cases hk2 : p.kind = 2
  · have hm : mayP p = (nodeB p.to && mayT p.t) := by
      unfold mayP
      rw [if_neg hk1, if_pos hk2]
    repeat'(first|refine kv' ?_|apply jJ|refine jE' ?_|refine jp' ?_|(apply jc;kernel_rfl)|refine kg' ?_|refine kG' ?_|refine kB' fun _=>?_|refine kA' fun _=>?_|refine kK' fun _=>?_|refine kU' ?_|(apply kq; (· exact rfl); (· intro w1 h1; first | exact CallsTo.q (e46 _ w1) h1 | exact CallsTo.q (show CallsTo Tryz.prog 48 [p.t.val A.ta A.tc] w1 _ from e48 p.t A.ta A.tc w1 (hR.old h1).ht) h1))|((first|refine kR' ?_ ?_|refine kQ' ?_ ?_);all_goals(intro hc;try simp only[hcs]at hc;try(exfalso;first|contradiction|omega))))
    all_goals (
      (apply ret1; (· exact rfl); intro w' hS)
      refine ⟨congrArg (Value.int .i64) ?_, hS.toKeep⟩
      first
        | (refine kept_no ?_; rw [hm]; simp_all; done)
        | (refine kept_yes hkb ?_; rw [hm]; simp_all; done))
  by_cases hk3 : p.kind = 3
  · have hm : mayP p = (decide (p.to = 0) && nodeB p.j1 && crewOk p.j2 && hasC p.j2 p.j1 && [p.j3].all numB) := by
      unfold mayP
      rw [if_neg hk1, if_neg hk2, if_pos hk3]
    repeat'(first|refine kv' ?_|apply jJ|refine jE' ?_|refine jp' ?_|(apply jc;kernel_rfl)|refine kg' ?_|refine kG' ?_|refine kB' fun _=>?_|refine kA' fun _=>?_|refine kK' fun _=>?_|refine kU' ?_|(apply kq; (· exact rfl); (· intro w1 h1; first | exact CallsTo.q (e46 _ w1) h1 | exact CallsTo.q (q83 p.j2 w1) h1 | exact CallsTo.q (q50 p.j2 p.j1 w1) h1 | exact CallsTo.q (e45 _ w1) h1))|((first|refine kR' ?_ ?_|refine kQ' ?_ ?_);all_goals(intro hc;try simp only[hcs]at hc;try(exfalso;first|contradiction|omega))))
    all_goals (
      (apply ret1; (· exact rfl); intro w' hS)
      refine ⟨congrArg (Value.int .i64) ?_, hS.toKeep⟩
      first
        | (refine kept_no ?_; rw [hm]; simp_all; done)
        | (refine kept_yes hkb ?_; rw [hm]; simp_all; done))
  by_cases hk4 : p.kind = 4
  · have hm : mayP p = mayCm p.c p.to := by
      unfold mayP
      rw [if_neg hk1, if_neg hk2, if_neg hk3, if_pos hk4]
    repeat'(first|refine kv' ?_|apply jJ|refine jE' ?_|refine jp' ?_|(apply jc;kernel_rfl)|refine kg' ?_|refine kG' ?_|refine kB' fun _=>?_|refine kA' fun _=>?_|refine kK' fun _=>?_|refine kU' ?_|(apply kq; (· exact rfl); (· intro w1 h1; exact CallsTo.q (show CallsTo Tryz.prog 51 [p.c.val A.ca A.cc, .int .i64 p.to] w1 _ from e51 p.c p.to A.ca A.cc w1 (hR.old h1).hc) h1))|((first|refine kR' ?_ ?_|refine kQ' ?_ ?_);all_goals(intro hc;try simp only[hcs]at hc;try(exfalso;first|contradiction|omega))))
    all_goals (
      (apply ret1; (· exact rfl); intro w' hS)
      refine ⟨congrArg (Value.int .i64) ?_, hS.toKeep⟩
      first
        | (refine kept_no ?_; rw [hm]; simp_all; done)
        | (refine kept_yes hkb ?_; rw [hm]; simp_all; done))
  by_cases hk5 : p.kind = 5
  · have hm : mayP p = (decide (p.to = 0) && liveR p.b1 p.b2 && nodeB p.b3) := by
      unfold mayP
      rw [if_neg hk1, if_neg hk2, if_neg hk3, if_neg hk4, if_pos hk5]
    repeat'(first|refine kv' ?_|apply jJ|refine jE' ?_|refine jp' ?_|(apply jc;kernel_rfl)|refine kg' ?_|refine kG' ?_|refine kB' fun _=>?_|refine kA' fun _=>?_|refine kK' fun _=>?_|refine kU' ?_|(apply kq; (· exact rfl); (· intro w1 h1; first | exact CallsTo.q (e44 p.b1 p.b2 w1) h1 | exact CallsTo.q (e46 _ w1) h1))|((first|refine kR' ?_ ?_|refine kQ' ?_ ?_);all_goals(intro hc;try simp only[hcs]at hc;try(exfalso;first|contradiction|omega))))
    all_goals (
      (apply ret1; (· exact rfl); intro w' hS)
      refine ⟨congrArg (Value.int .i64) ?_, hS.toKeep⟩
      first
        | (refine kept_no ?_; clear hkb hk1 hk2 hk3 hk4 hk5; rw [hm]; clear hm; simp_all; done)
        | (refine kept_no ?_; rw [hm]; simp [*]; done)
        | (refine kept_yes hkb ?_; rw [hm]; simp_all; done))
  · have hm : mayP p = false := by
      unfold mayP
      rw [if_neg hk1, if_neg hk2, if_neg hk3, if_neg hk4, if_neg hk5]
    repeat'(first|refine kv' ?_|apply jJ|refine jE' ?_|refine jp' ?_|(apply jc;kernel_rfl)|refine kg' ?_|refine kG' ?_|refine kB' fun _=>?_|refine kA' fun _=>?_|refine kK' fun _=>?_|refine kU' ?_|((first|refine kR' ?_ ?_|refine kQ' ?_ ?_);all_goals(intro hc;try simp only[hcs]at hc;try(exfalso;first|contradiction|omega))))
    all_goals (
      (apply ret1; (· exact rfl); intro w' hS)
      exact ⟨congrArg (Value.int .i64) (kept_no hm), hS.toKeep⟩)
end Go.Proofs.YtkolmkdbjagfcaaGreat

namespace Go.Proofs.YtkolmkdbjagfcaaGreat
open Go.Hb
attribute [local irreducible] LR CW At Ev thn blk finK noG again CallsTo DW QL dnext TW DP
set_option maxRecDepth 100000

theorem u32_byte {x : Int} (h0 : 0 ≤ x) (h1 : x < 256) : IntKind.u32.wrap x = U32 (B32 x) := by
  obtain ⟨n, rfl⟩ : ∃ n : Nat, x = (n : Int) := ⟨x.toNat, by omega⟩
  rw [wrap_u32 (by omega)]
  show (n : Int) = ((BitVec.ofInt 32 (n : Int)).toNat : Int)
  rw [BitVec.toNat_ofInt]
  omega
theorem low_mod (X : BitVec 32) : (U32 X).tmod 2 = if X.getLsbD 0 then 1 else 0 := by
  have h : X.getLsbD 0 = decide (X.toNat % 2 = 1) := by
    rw [BitVec.getLsbD_eq_getElem (by omega)]
    simp [BitVec.getElem_eq_testBit_toNat, Nat.testBit_zero]
  rw [h]
  show ((X.toNat : Int)).tmod 2 = _
  rw [Int.tmod_eq_emod_of_nonneg (by omega)]
  by_cases hx : X.toNat % 2 = 1
  · rw [decide_eq_true hx]; simp; omega
  · rw [decide_eq_false hx]; simp; omega
section
variable {P : Program} {C : World → Prop} {f : Frm} {T T' T'' : TypeId} {x y : Operand}
theorem Ev.remU {X : BitVec 32} {b : Bool} (hb : X.getLsbD 0 = b) (hx : f.ev x = .int .u32 (U32 X)) (hy : f.ev y = .int .u32 2) : Ev P C f (.binOp .rem T' x y T'') T (.int .u32 (if b then 1 else 0)) := by
  rw [← hb, ← low_mod]
  exact Ev.rem hx hy (by decide)
theorem Ev.convU {b : Int} [hi : ToInt P T' T'' .u32] (h0 : 0 ≤ b) (h1 : b < 256) (hx : f.ev x = .int .u8 b) : Ev P C f (.convert T' T'' x) T (.int .u32 (U32 (B32 b))) := by
  rw [← u32_byte h0 h1]
  exact Ev.conv hx
end
set_option maxHeartbeats 4000000 in
theorem e85 (a : Option Addr) (c : Nat) (l : List Int) (w : World) (hr : Rd w a (bv l)) (hb : Byt l) (hm : l.length ≤ 140737488355328) :
    CallsTo Tryz.prog 85 [.slice a l.length c] w fun v w' => v = .int .u32 (U32 (crcL l)) ∧ Grew w w' := by
  refine go_in (n := 33) (St.rd1 hr) Tryz.func85 rfl rfl ?_
  repeat'(first|refine kv' ?_|apply jJ|refine jE' ?_|refine jp' ?_|(apply jc;kernel_rfl)|refine kg' ?_|refine kG' ?_|refine kB' fun _=>?_|refine kA' fun _=>?_|refine kK' fun _=>?_|refine kU' ?_|((first|refine kR' ?_ ?_|refine kQ' ?_ ?_);all_goals(intro hc;try simp only[hcs]at hc;try(exfalso;first|contradiction|omega))))
  apply CW.loop [3, 4, 5, 6, 7, 8, 9, 10, 11, 12, 13, 14, 15, 16, 17, 18, 19, 20, 21, 22, 23, 24, 25, 26, 27, 28, 29, 30] (fun i : Nat => i ≤ l.length) (fun i => [(4, Value.int .i64 (i : Int)), (3, Value.int .u32 (U32 (crcF 0xFFFFFFFF#32 (l.take i))))])
    (fun _ => St w NoF [rdA a (bv l)]) (fun i => l.length - i)
  · intro w' hw'
    exact ⟨0, by simp, ⟨rfl, rfl, trivial⟩, hw'⟩
  intro i g1 hi
  by_cases hlt : i < l.length
  · obtain ⟨bg, og, rfl⟩ := hr.form (fun e => by have h2 := congrArg List.length e; simp only [bv, List.length_map, List.length_nil] at h2; omega)
    have hcb := hb l[i] (List.getElem_mem hlt)
    have hsucc : crcF 0xFFFFFFFF#32 (l.take (i + 1)) = crcS (crcF 0xFFFFFFFF#32 (l.take i)) l[i] := by
      rw [List.take_add_one, List.getElem?_eq_getElem hlt, crcF_app]
      rfl
    obtain ⟨X, hX⟩ : ∃ X, crcF 0xFFFFFFFF#32 (l.take i) = X := ⟨_, rfl⟩
    rw [hX] at hsucc ⊢
    obtain ⟨x, hx⟩ : ∃ x, l[i] = x := ⟨_, rfl⟩
    rw [hx] at hsucc hcb
    have hcell : (bv l)[(i : Int).toNat * 1]? = some (.int .u8 x) := by rw [← hx]; exact bv_at (by omega) hlt
    repeat'(first|(apply LR.ev; (· first | exact Ev.convU hcb.1 hcb.2 rfl | exact Ev.xorU (X := X) (Y := B32 x) rfl rfl); (· exact rfl))|refine kv' ?_|apply jJ|refine jE' ?_|refine jp' ?_|(apply jc;kernel_rfl)|refine kg' ?_|refine kG' ?_|refine kB' fun _=>?_|refine kA' fun _=>?_|refine kK' fun _=>?_|refine kU' ?_|(apply idxX;(iterate 2 exact rfl);(iterate 2(first|omega|(dsimp only;omega)));exact rfl)|(apply LR.ev; (· apply Ev.load_rd; (· exact rfl); (· repeat (first | exact mH _ _ | apply mT)); (· exact hcell)); (· exact rfl))|((first|refine kR' ?_ ?_|refine kQ' ?_ ?_);all_goals(intro hc;try simp only[hcs]at hc;try(exfalso;first|contradiction|omega))))
    apply CW.loop [3, 5, 19, 20, 21, 22, 23, 24, 25, 26, 27, 28, 29, 30] (fun s : Nat × BitVec 32 => s.1 ≤ 8 ∧ crcN (8 - s.1) s.2 = crcS X x) (fun s => [(5, Value.int .i64 (s.1 : Int)), (3, Value.int .u32 (U32 s.2))])
      (fun s => St w NoF [rdA (some ⟨bg, og, none⟩) (bv l)]) (fun s => 8 - s.1)
    · intro w' hw'
      exact ⟨(0, X ^^^ B32 x), ⟨by simp, rfl⟩, ⟨rfl, rfl, trivial⟩, hw'⟩
    rintro ⟨k, Y⟩ g2 ⟨hk, hY⟩
    simp only at hk hY ⊢
    by_cases hlk : k < 8
    · have h8 : crcN (8 - k) Y = crcN (8 - (k + 1)) (crcB Y) := by rw [show 8 - k = (8 - (k + 1)) + 1 by omega]; rfl
      have hlm := low_mod Y
      cases hl : Y.getLsbD 0
      · have hB : crcB Y = Y >>> 1 := by unfold crcB; rw [hl]; rfl
        rw [hl] at hlm
        replace hlm : (U32 Y).tmod 2 = 0 := hlm
        repeat'(first|(apply LR.ev; (· first | exact Ev.remU hl rfl rfl | exact Ev.shrU (X := Y) (j := 1) rfl rfl rfl (by omega)); (· exact rfl))|refine kv' ?_|apply jJ|refine jE' ?_|refine jp' ?_|(apply jc;kernel_rfl)|refine kg' ?_|refine kG' ?_|refine kB' fun _=>?_|refine kA' fun _=>?_|refine kK' fun _=>?_|refine kU' ?_|(apply addX;(iterate 2 exact rfl);(iterate 2(first|omega|(dsimp only;omega)));exact rfl)|((first|refine kR' ?_ ?_|refine kQ' ?_ ?_);all_goals(intro hc;try simp only[hcs]at hc;try(exfalso;first|contradiction|omega))))
        refine At.again (k + 1, Y >>> 1) ⟨by show k + 1 ≤ 8; omega, by rw [← hY, h8, hB]⟩ ?_ ⟨rfl, rfl, trivial⟩ (fun w' hw' => hw') (by show 8 - (k + 1) < 8 - k; omega)
        (repeat (first | exact Out.refl _ _ | exact Out.mix | (apply Out.upd; (· exact rfl)) | (apply Out.updL; (· exact rfl)) | (apply Out.mixs; (· exact rfl))))
      · have hB : crcB Y = (Y >>> 1) ^^^ polC := by unfold crcB; rw [hl]; rfl
        rw [hl] at hlm
        replace hlm : (U32 Y).tmod 2 = 1 := hlm
        repeat'(first|(apply LR.ev; (· first | exact Ev.remU hl rfl rfl | exact Ev.shrU (X := Y) (j := 1) rfl rfl rfl (by omega) | exact Ev.xorU (X := Y >>> 1) (Y := polC) rfl rfl); (· exact rfl))|refine kv' ?_|apply jJ|refine jE' ?_|refine jp' ?_|(apply jc;kernel_rfl)|refine kg' ?_|refine kG' ?_|refine kB' fun _=>?_|refine kA' fun _=>?_|refine kK' fun _=>?_|refine kU' ?_|(apply addX;(iterate 2 exact rfl);(iterate 2(first|omega|(dsimp only;omega)));exact rfl)|((first|refine kR' ?_ ?_|refine kQ' ?_ ?_);all_goals(intro hc;try simp only[hcs]at hc;try(exfalso;first|contradiction|omega))))
        refine At.again (k + 1, (Y >>> 1) ^^^ polC) ⟨by show k + 1 ≤ 8; omega, by rw [← hY, h8, hB]⟩ ?_ ⟨rfl, rfl, trivial⟩ (fun w' hw' => hw') (by show 8 - (k + 1) < 8 - k; omega)
        (repeat (first | exact Out.refl _ _ | exact Out.mix | (apply Out.upd; (· exact rfl)) | (apply Out.updL; (· exact rfl)) | (apply Out.mixs; (· exact rfl))))
    · have hk8 : k = 8 := by omega
      subst hk8
      have hYe : Y = crcS X x := hY
      subst hYe
      repeat'(first|refine kv' ?_|apply jJ|refine jE' ?_|refine jp' ?_|(apply jc;kernel_rfl)|refine kg' ?_|refine kG' ?_|refine kB' fun _=>?_|refine kA' fun _=>?_|refine kK' fun _=>?_|refine kU' ?_|(apply addX;(iterate 2 exact rfl);(iterate 2(first|omega|(dsimp only;omega)));exact rfl)|((first|refine kR' ?_ ?_|refine kQ' ?_ ?_);all_goals(intro hc;try simp only[hcs]at hc;try(exfalso;first|contradiction|omega))))
      refine At.again (i + 1) (by omega) ?_ ⟨rfl, ?_, trivial⟩ (fun w' hw' => hw') (by omega)
      · (repeat (first | exact Out.refl _ _ | exact Out.mix | (apply Out.upd; (· exact rfl)) | (apply Out.updL; (· exact rfl)) | (apply Out.mixs; (· exact rfl))))
      · rw [hsucc]
        rfl
  · have hie : i = l.length := by omega
    subst hie
    rw [List.take_length]
    repeat'(first|(apply LR.ev; (· exact Ev.notU (X := crcF 0xFFFFFFFF#32 l) rfl); (· exact rfl))|refine kv' ?_|apply jJ|refine jE' ?_|refine jp' ?_|(apply jc;kernel_rfl)|refine kg' ?_|refine kG' ?_|refine kB' fun _=>?_|refine kA' fun _=>?_|refine kK' fun _=>?_|refine kU' ?_|((first|refine kR' ?_ ?_|refine kQ' ?_ ?_);all_goals(intro hc;try simp only[hcs]at hc;try(exfalso;first|contradiction|omega))))
    (apply ret1; (· exact rfl); intro w' hS)
    exact ⟨rfl, hS.toKeep⟩
set_option maxHeartbeats 4000000 in
theorem e32 (a : Option Addr) (c : Nat) (l : List Int) (w : World) (hr : Rd w a (bv l)) (hb : Byt l) (hz : a = none → c = 0) (hm : l.length ≤ 140737488355000) :
    CallsTo Tryz.prog 32 [.slice a l.length c] w fun v w' => ∃ a' c', v = .slice a' (sealL l).length c' ∧ NewSl w w' (.slice a' (sealL l).length c') 5 1 (sealL l).length (bv (sealL l)) := by
  refine go_in (n := 24) (St.rd1 hr) Tryz.func32 rfl rfl ?_
  obtain ⟨X, hX⟩ : ∃ X, crcL l = X := ⟨_, rfl⟩
  have h0 : IntKind.u8.wrap (U32 X) = byteK X 0 := by have := byte_K X 0; rwa [BitVec.ushiftRight_zero] at this
  repeat'(first|(apply Go.Hb.kK;(iterate 4 exact rfl);intro bs)|refine kv' ?_|apply jJ|refine jE' ?_|refine jp' ?_|(apply jc;kernel_rfl)|refine kg' ?_|refine kG' ?_|refine kB' fun _=>?_|refine kA' fun _=>?_|refine kK' fun _=>?_|refine kU' ?_|(apply kq; (· exact rfl); (· intro w1 h1; have hq := CallsTo.q (e85 a c l w1 (h1.rd_of memZ) hb (by omega)) h1; rw [hX] at hq; exact hq))|(refine LR.append_nil (news := bv l) rfl rfl (fun w' hw' => hw'.rd_of (a := a) (xs := bv l) memZ) (fun hx => ⟨hr.none_len hx, hz hx⟩) (by simp) (bv_one l) (by omega) (by unfold maxLen; omega) rfl ?_; intro a1 c1)|((first|refine kR' ?_ ?_|refine kQ' ?_ ?_);all_goals(intro hc;try simp only[hcs]at hc;try(exfalso;first|contradiction|omega))))
  have v24 : IntKind.u8.wrap ((U32 X).fdiv (2 ^ min (Int.toNat 24) IntKind.u32.bits)) = byteK X 24 := by rw [← byte_K, ← shr_U X 24 (by omega)]; rfl
  have v16 : IntKind.u8.wrap ((U32 X).fdiv (2 ^ min (Int.toNat 16) IntKind.u32.bits)) = byteK X 16 := by rw [← byte_K, ← shr_U X 16 (by omega)]; rfl
  have v8 : IntKind.u8.wrap ((U32 X).fdiv (2 ^ min (Int.toNat 8) IntKind.u32.bits)) = byteK X 8 := by rw [← byte_K, ← shr_U X 8 (by omega)]; rfl
  rw [v24, v16, v8, h0]
  repeat'(first|refine kv' ?_|apply jJ|refine jE' ?_|refine jp' ?_|(apply jc;kernel_rfl)|refine kg' ?_|refine kG' ?_|refine kB' fun _=>?_|refine kA' fun _=>?_|refine kK' fun _=>?_|refine kU' ?_|(apply LR.append (xs := bv l) (news := [Value.int .u8 (byteK X 24), .int .u8 (byteK X 16), .int .u8 (byteK X 8), .int .u8 (byteK X 0)]) (m := 4); (· exact rfl); (· exact rfl); (· intro a' c'; (repeat (first | exact sH _ _ _ | apply sT))); (· exact fun w' hw' => hw'.rd_of_blk (mH _ _)); (· exact fun hx => by cases hx); (· exact rfl); (· exact rfl); (· omega); (· unfold maxLen; omega); (· exact rfl); (intro a4 c4))|((first|refine kR' ?_ ?_|refine kQ' ?_ ?_);all_goals(intro hc;try simp only[hcs]at hc;try(exfalso;first|contradiction|omega))))
  (apply ret1; (· exact rfl); intro w' hS)
  have e : sealL l = l ++ [byteK X 24, byteK X 16, byteK X 8, byteK X 0] := by rw [← hX]; rfl
  rw [e]
  have e2 : (l ++ [byteK X 24, byteK X 16, byteK X 8, byteK X 0]).length = l.length + 4 := by simp
  have e3 : bv (l ++ [byteK X 24, byteK X 16, byteK X 8, byteK X 0]) = bv l ++ [Value.int .u8 (byteK X 24), .int .u8 (byteK X 16), .int .u8 (byteK X 8), .int .u8 (byteK X 0)] := by simp [bv]
  rw [e2, e3]
  exact ⟨a4, c4, rfl, hS.toNew memZ⟩
set_option maxHeartbeats 2000000 in
theorem e60 (a : Option Addr) (c : Nat) (b : List Int) (w : World) (hr : Rd w a (bv b)) (hb : Byt b) (hz : a = none → c = 0) (hc : b.length ≤ c) (hm : b.length ≤ 140737488355000) :
    CallsTo Tryz.prog 60 [.slice a b.length c] w fun v w' => ∃ a' c', v = .tuple [.slice a' (openL b).1.length c', .int .i64 (openL b).2].toArray ∧ NewSl w w' (.slice a' (openL b).1.length c') 5 1 (openL b).1.length (bv (openL b).1) := by
  refine go_in (n := 20) (St.rd1 hr) Tryz.func60 rfl rfl ?_
  by_cases h4 : b.length < 4
  · repeat'(first|refine kv' ?_|apply jJ|refine jE' ?_|refine jp' ?_|(apply jc;kernel_rfl)|refine kg' ?_|refine kG' ?_|refine kB' fun _=>?_|refine kA' fun _=>?_|refine kK' fun _=>?_|refine kU' ?_|(apply subX;(iterate 2 exact rfl);(iterate 2(first|omega|(dsimp only;omega)));exact rfl)|((first|refine kR' ?_ ?_|refine kQ' ?_ ?_);all_goals(intro hc;try simp only[hcs]at hc;try(exfalso;first|contradiction|omega))))
    (apply ret2; (· exact rfl); intro w' hS)
    have e : openL b = ([], 3) := by unfold openL; rw [if_pos h4]
    rw [e]
    exact ⟨none, 0, rfl, (hS.nilsl 5 1).toNew (mH _ _)⟩
  · obtain ⟨bg, og, rfl⟩ := hr.form (fun e => by have h2 := congrArg List.length e; simp only [bv, List.length_map, List.length_nil] at h2; omega)
    obtain ⟨l, hl⟩ : ∃ l, b.take (b.length - 4) = l := ⟨_, rfl⟩
    have hll : l.length = b.length - 4 := by rw [← hl, List.length_take]; omega
    have hlb : Byt l := fun x hx => hb x (by rw [← hl] at hx; exact List.mem_of_mem_take hx)
    have hrl : ∀ {L : List Asrt} {w1 : World}, St w NoF L w1 → rdA (some ⟨bg, og, none⟩) (bv b) ∈ L → Rd w1 (some ⟨bg, og, none⟩) (bv l) := fun h1 hm => by
      have := rd_take (h1.rd_of hm) (b.length - 4)
      rwa [bv_take, hl] at this
    by_cases hs : sealL l = b
    · have e : openL b = (l, 0) := by unfold openL; rw [if_neg h4, hl, if_pos hs]
      rw [e]
      repeat'(first|refine kv' ?_|apply jJ|refine jE' ?_|refine jp' ?_|(apply jc;kernel_rfl)|refine kg' ?_|refine kG' ?_|refine kB' fun _=>?_|refine kA' fun _=>?_|refine kK' fun _=>?_|refine kU' ?_|(apply subX;(iterate 2 exact rfl);(iterate 2(first|omega|(dsimp only;omega)));exact rfl)|(apply LR.ev; (· exact Ev.slice_hi0 (a := some ⟨bg, og, none⟩) (c := c) (j := l.length) subA_zero (by omega) (by omega) rfl rfl); (· exact rfl))|(apply LR.call; (· exact rfl); (intro w1 h1; first | (refine (c22 (some ⟨bg, og, none⟩) c l w1 (hrl h1 memZ) (fun e => by cases e) (by omega)).mono ?_; rintro v w2 ⟨a1, c1, rfl, hn⟩; refine LR.back (h1.newSl hn) ?_; clear hn h1 w2 w1) | (refine (e32 a1 c1 l w1 (h1.rd_of_own memZ) hlb (fun e => (ownsRow_some h1.g0 e).2) (by omega)).mono ?_; rintro v w2 ⟨a2, c2, rfl, hn⟩; refine LR.back (h1.newSl hn) ?_; clear hn h1 w2 w1)))|(apply kq; (· exact rfl); (· intro w1 h1; have hq := CallsTo.q (c19 a2 (some ⟨bg, og, none⟩) c2 c (sealL l) b w1 (h1.rd_of_own memZ) (h1.rd_of memZ) (by rw [sealL_len]; omega)) h1; rw [decide_eq_true hs] at hq; exact hq))|((first|refine kR' ?_ ?_|refine kQ' ?_ ?_);all_goals(intro hc;try simp only[hcs]at hc;try(exfalso;first|contradiction|omega))))
      (apply ret2; (· exact rfl); intro w' hS)
      exact ⟨a1, c1, rfl, hS.toNew memZ⟩
    · have e : openL b = ([], 60) := by unfold openL; rw [if_neg h4, hl, if_neg hs]
      rw [e]
      repeat'(first|refine kv' ?_|apply jJ|refine jE' ?_|refine jp' ?_|(apply jc;kernel_rfl)|refine kg' ?_|refine kG' ?_|refine kB' fun _=>?_|refine kA' fun _=>?_|refine kK' fun _=>?_|refine kU' ?_|(apply subX;(iterate 2 exact rfl);(iterate 2(first|omega|(dsimp only;omega)));exact rfl)|(apply LR.ev; (· exact Ev.slice_hi0 (a := some ⟨bg, og, none⟩) (c := c) (j := l.length) subA_zero (by omega) (by omega) rfl rfl); (· exact rfl))|(apply LR.call; (· exact rfl); (intro w1 h1; first | (refine (c22 (some ⟨bg, og, none⟩) c l w1 (hrl h1 memZ) (fun e => by cases e) (by omega)).mono ?_; rintro v w2 ⟨a1, c1, rfl, hn⟩; refine LR.back (h1.newSl hn) ?_; clear hn h1 w2 w1) | (refine (e32 a1 c1 l w1 (h1.rd_of_own memZ) hlb (fun e => (ownsRow_some h1.g0 e).2) (by omega)).mono ?_; rintro v w2 ⟨a2, c2, rfl, hn⟩; refine LR.back (h1.newSl hn) ?_; clear hn h1 w2 w1)))|(apply kq; (· exact rfl); (· intro w1 h1; have hq := CallsTo.q (c19 a2 (some ⟨bg, og, none⟩) c2 c (sealL l) b w1 (h1.rd_of_own memZ) (h1.rd_of memZ) (by rw [sealL_len]; omega)) h1; rw [decide_eq_false hs] at hq; exact hq))|((first|refine kR' ?_ ?_|refine kQ' ?_ ?_);all_goals(intro hc;try simp only[hcs]at hc;try(exfalso;first|contradiction|omega))))
      (apply ret2; (· exact rfl); intro w' hS)
      exact ⟨none, 0, rfl, (hS.nilsl 5 1).toNew (mH _ _)⟩
set_option maxHeartbeats 2000000 in
theorem e29 (bw : Nat) (a b : Option Addr) (c cb : Nat) (l xs : List Int) (w : World) (h : wrP 131 [] bw a c l w) (hb : Rd w b (iv xs)) (hd : ∀ k, rdFoot b (iv xs) k → ¬ wrF bw a k) (hm : l.length ≤ 1000000) (hm2 : xs.length ≤ 100) (hok : ∀ x ∈ xs, okN x) :
    CallsTo Tryz.prog 29 [.pointer (some ⟨bw, 0, none⟩), .slice b xs.length cb] w fun v w' => ∃ a' c', v = .tuple #[] ∧ Step (wrA 131 [] bw a c l) (wrA 131 [] bw a' c' (l ++ encs xs)) w w' := by
  refine go_in (n := 17) (wr_start_rd h hb hd) Tryz.func29 rfl rfl ?_
  repeat'(first|refine kv' ?_|apply jJ|refine jE' ?_|refine jp' ?_|(apply jc;kernel_rfl)|refine kg' ?_|refine kG' ?_|refine kB' fun _=>?_|refine kA' fun _=>?_|refine kK' fun _=>?_|refine kU' ?_|((first|refine kR' ?_ ?_|refine kQ' ?_ ?_);all_goals(intro hc;try simp only[hcs]at hc;try(exfalso;first|contradiction|omega))))
  apply CW.loop [4, 5, 6, 7, 8, 9, 10, 11, 12, 13, 14, 15, 16] (fun s : Nat × Option Addr × Nat => s.1 ≤ xs.length) (fun s => [(4, Value.int .i64 (s.1 : Int))])
    (fun s => St w (wrF bw a) [wr1 131 [] bw s.2.1 s.2.2 (l ++ encs (xs.take s.1)), wr2 s.2.1 s.2.2 (l ++ encs (xs.take s.1)), rdA b (iv xs)]) (fun s => xs.length - s.1)
  · exact fun w' hw' => ⟨(0, a, c), by simp, ⟨rfl, trivial⟩, hw'.cast (by simp [encs])⟩
  rintro ⟨i, a1, c1⟩ g hi
  simp only at hi ⊢
  have hlen := encs_len (xs.take i)
  have hlen2 : (xs.take i).length ≤ 100 := by simp; omega
  by_cases hlt : i < xs.length
  · obtain ⟨bb, ob, rfl⟩ := hb.form (fun e => by have := congrArg List.length e; simp at this; subst this; simp at hlt)
    have hx := hok _ (List.getElem_mem hlt)
    have e1 := putE_ok hx
    have e2 := putL_ok hx
    repeat'(first|refine kv' ?_|apply jJ|refine jE' ?_|refine jp' ?_|(apply jc;kernel_rfl)|refine kg' ?_|refine kG' ?_|refine kB' fun _=>?_|refine kA' fun _=>?_|refine kK' fun _=>?_|refine kU' ?_|(apply idxX;(iterate 2 exact rfl);(iterate 2(first|omega|(dsimp only;omega)));exact rfl)|(apply LR.ev; (· apply Ev.load_rd; (· exact rfl); (· repeat (first | exact mH _ _ | apply mT)); (· exact iv_at (i := i) (by simp) (by omega))); (· exact rfl))|(apply LR.call; (· exact rfl); (intro w1 h1; refine (c78 _ _ _ _ _ w1 (wr_hold h1) (by simp; omega)).mono ?_; rintro v w2 ⟨a2, c2, rfl, st⟩; refine LR.back (wr_did h1 st) ?_; clear st h1; rw [e1, e2]))|(apply addX;(iterate 2 exact rfl);(iterate 2(first|omega|(dsimp only;omega)));exact rfl)|((first|refine kR' ?_ ?_|refine kQ' ?_ ?_);all_goals(intro hc;try simp only[hcs]at hc;try(exfalso;first|contradiction|omega))))
    apply At.again (i + 1, a2, c2) (by show i + 1 ≤ _; omega)
    · (repeat (first | exact Out.refl _ _ | exact Out.mix | (apply Out.upd; (· exact rfl)) | (apply Out.updL; (· exact rfl)) | (apply Out.mixs; (· exact rfl))))
    · exact ⟨rfl, trivial⟩
    · intro w' hw'
      exact hw'.cast (by simp only [encs_take hlt, List.append_assoc])
    · show xs.length - (i + 1) < xs.length - i; omega
  · repeat'(first|refine kv' ?_|apply jJ|refine jE' ?_|refine jp' ?_|(apply jc;kernel_rfl)|refine kg' ?_|refine kG' ?_|refine kB' fun _=>?_|refine kA' fun _=>?_|refine kK' fun _=>?_|refine kU' ?_|((first|refine kR' ?_ ?_|refine kQ' ?_ ?_);all_goals(intro hc;try simp only[hcs]at hc;try(exfalso;first|contradiction|omega))))
    have e : xs.take i = xs := List.take_of_length_le (by omega)
    rw [e]
    apply end0
    · exact rfl
    intro w' hS
    exact ⟨a1, c1, rfl, wr_end hS⟩
end Go.Proofs.YtkolmkdbjagfcaaGreat

namespace Go.Proofs.YtkolmkdbjagfcaaGreat
open Go.Hb
attribute [local irreducible] LR CW At Ev thn blk finK noG again CallsTo DW QL dnext TW DP
set_option maxRecDepth 100000

theorem encs_nat (x : Nat) : encs [(x : Int)] = enc x := by simp [encs]
theorem okN_nat {n : Nat} (h : n ≤ 1000000) : okN (n : Int) := by unfold okN; omega
theorem e29b {w w1 : World} {F : Nat → Prop} {L : List Asrt} {bw bs : Nat} {a : Option Addr} {c : Nat} {l xs : List Int} (h1 : St w F L w1) (hw : wrA 131 [] bw a c l ∈ L) (hs : [Asrt.own bs (.cells (iv xs).toArray 3 (0, 0)), wrA 131 [] bw a c l].Sublist L) (hm : l.length ≤ 1000000) (hm2 : xs.length ≤ 100) (hok : ∀ x ∈ xs, okN x) :
    CallsTo Tryz.prog 29 [.pointer (some ⟨bw, 0, none⟩), .slice (some ⟨bs, 0, none⟩) xs.length xs.length] w1 fun v w' => ∃ a' c', v = .tuple #[] ∧ Step (wrA 131 [] bw a c l) (wrA 131 [] bw a' c' (l ++ encs xs)) w1 w' :=
  e29 bw a (some ⟨bs, 0, none⟩) c xs.length l xs w1 (h1.holds _ hw) (h1.rd_of_blk (E := 3) (fr := (0, 0)) (hs.subset List.mem_cons_self)) (fun k hk hf => by obtain ⟨_, _, e, rfl⟩ := hk; cases e; exact St.apart2 (x := .own bs (.cells (iv xs).toArray 3 (0, 0))) (y := wrA 131 [] bw a c l) h1 (.inl hs) rfl bs rfl hf) hm hm2 hok
structure Est where
  i : Nat
  a : Option Addr
  c : Nat
set_option maxHeartbeats 16000000 in
theorem e8 (p : Pkt) (A : PAd) (w : World) (hR : PktR w p A) : CallsTo Tryz.prog 8 [p.val A] w fun v w' => ∃ a' c', v = .tuple [.slice a' (packP p).1.length c', .int .i64 (packP p).2].toArray ∧ NewSl w w' (.slice a' (packP p).1.length c') 5 1 (packP p).1.length (bv (packP p).1) := by
  refine go_in (n := 168) (St.refl _ NoF) Tryz.func8 rfl rfl ?_
  cases hck : chkP p
  · have e : packP p = ([], 2) := by unfold packP; rw [hck]; rfl
    repeat'(first|(apply kB;(iterate 2 exact rfl);intro b1)|refine kv' ?_|apply jJ|refine jE' ?_|refine jp' ?_|(apply jc;kernel_rfl)|refine kg' ?_|refine kG' ?_|refine kB' fun _=>?_|refine kA' fun _=>?_|refine kK' fun _=>?_|refine kU' ?_|(apply kq; (· exact rfl); (· intro w1 h1; have hq := CallsTo.q (e10 p A w1 (hR.old h1)) h1; rw [hck] at hq; exact hq))|((first|refine kR' ?_ ?_|refine kQ' ?_ ?_);all_goals(intro hc;try simp only[hcs]at hc;try(exfalso;first|contradiction|omega))))
    (apply ret2; (· exact rfl); intro w' hS)
    rw [e]
    exact ⟨none, 0, rfl, (hS.nilsl 5 1).toNew (mH _ _)⟩
  have hm := (chk_may hck).1
  have hbl := body_len hm
  have hbb := body_byt hm hR.hdb
  have e : packP p = (sealL (bodyP p), 0) := by unfold packP; rw [hck]; rfl
  rw [e]
  obtain ⟨ok1, ok2, hkb, okn⟩ := may_num hm
  have hl0 := encs_len [p.kind, p.to]
  have hl1 := encs_len (numsP p)
  have hln := nums_len p
  have okk : ∀ x ∈ [p.kind, p.to], okN x := fun x hx => by simp only [List.mem_cons, List.not_mem_nil, or_false] at hx; rcases hx with rfl | rfl; (· exact ok1); (· exact ok2)
  simp only [List.length_cons, List.length_nil] at hl0
  repeat'(first|(apply kB;(iterate 2 exact rfl);intro b1)|refine kv' ?_|apply jJ|refine jE' ?_|refine jp' ?_|(apply jc;kernel_rfl)|refine kg' ?_|refine kG' ?_|refine kB' fun _=>?_|refine kA' fun _=>?_|refine kK' fun _=>?_|refine kU' ?_|(apply kq; (· exact rfl); (· intro w1 h1; have hq := CallsTo.q (e10 p A w1 (hR.old h1)) h1; rw [hck] at hq; exact hq))|((first|refine kR' ?_ ?_|refine kQ' ?_ ?_);all_goals(intro hc;try simp only[hcs]at hc;try(exfalso;first|contradiction|omega))))
  apply LR.call
  · exact rfl
  intro w1 h1
  refine CallsTo.mono (show CallsTo Tryz.prog 28 [] w1 _ from c77 w1) ?_
  rintro v w2 ⟨bw, rfl, hn⟩
  refine LR.back (h1.got hn (wrA_dep _ _ _ _)) ?_
  clear hn h1
  repeat'(first|(apply Go.Hb.kK;(iterate 4 exact rfl);intro bs)|refine kv' ?_|apply jJ|refine jE' ?_|refine jp' ?_|(apply jc;kernel_rfl)|refine kg' ?_|refine kG' ?_|refine kB' fun _=>?_|refine kA' fun _=>?_|refine kK' fun _=>?_|refine kU' ?_|((first|refine kR' ?_ ?_|refine kQ' ?_ ?_);all_goals(intro hc;try simp only[hcs]at hc;try(exfalso;first|contradiction|omega))))
  apply LR.call
  · exact rfl
  intro w1 h1
  refine CallsTo.mono (show CallsTo Tryz.prog 29 [.pointer (some ⟨bw, 0, none⟩), .slice (some ⟨bs, 0, none⟩) 2 2] w1 _ from e29b (xs := [p.kind, p.to]) h1 memZ subZ (by simp) (by simp) okk) ?_
  rintro v w2 ⟨a2, c2, rfl, st⟩
  rw [List.nil_append] at st
  refine LR.back (St.did h1 selZ rfl st (wrA_dep _ _ _ _)) ?_
  clear st h1
  by_cases hk1 : p.kind = 1
  · have hnums : numsP p = [p.d.rseq, p.d.rrep, p.d.seq, p.d.sender, p.d.stamp] := by unfold numsP; rw [if_pos hk1]
    have htail : tailP p = enc (bytesM p.d.msg).length ++ bytesM p.d.msg := by unfold tailP; rw [if_pos hk1]
    have hmk := may_msg hm hk1
    have hpk : pack p.d.msg = (bytesM p.d.msg, 0) := by unfold pack; rw [if_neg (by simp [hmk])]
    have hlb := bytesM_len p.d.msg
    have hlb2 := (check_ok hmk).1
    have hbody : encs [p.kind, p.to] ++ encs [p.d.rseq, p.d.rrep, p.d.seq, p.d.sender, p.d.stamp] ++ enc (bytesM p.d.msg).length ++ bytesM p.d.msg = bodyP p := by unfold bodyP; rw [hnums, htail]; simp only [List.append_assoc]
    rw [hnums] at okn hl1
    simp only [List.length_cons, List.length_nil] at hl1
    repeat'(first|(apply Go.Hb.kK;(iterate 4 exact rfl);intro bs2)|refine kv' ?_|apply jJ|refine jE' ?_|refine jp' ?_|(apply jc;kernel_rfl)|refine kg' ?_|refine kG' ?_|refine kB' fun _=>?_|refine kA' fun _=>?_|refine kK' fun _=>?_|refine kU' ?_|((first|refine kR' ?_ ?_|refine kQ' ?_ ?_);all_goals(intro hc;try simp only[hcs]at hc;try(exfalso;first|contradiction|omega))))
    apply LR.call
    · exact rfl
    intro w1 h1
    refine CallsTo.mono (show CallsTo Tryz.prog 29 [.pointer (some ⟨bw, 0, none⟩), .slice (some ⟨bs2, 0, none⟩) 5 5] w1 _ from e29b (xs := [p.d.rseq, p.d.rrep, p.d.seq, p.d.sender, p.d.stamp]) h1 memZ subZ (by first | omega | (simp only [List.length_append]; omega)) (by simp) okn) ?_
    rintro v w2 ⟨a3, c3, rfl, st⟩
    refine LR.back (St.did h1 selZ rfl st (wrA_dep _ _ _ _)) ?_
    clear st h1

    repeat'(first|refine kv' ?_|apply jJ|refine jE' ?_|refine jp' ?_|(apply jc;kernel_rfl)|refine kg' ?_|refine kG' ?_|refine kB' fun _=>?_|refine kA' fun _=>?_|refine kK' fun _=>?_|refine kU' ?_|(apply LR.call; (· exact rfl); (intro w1 h1; first | (refine CallsTo.mono (show CallsTo Tryz.prog 30 [p.d.msg.val A.da A.dc] w1 (fun v w' => ∃ a2 c2, v = .tuple [.slice a2 (bytesM p.d.msg).length c2, .int .i64 0].toArray ∧ NewSl w1 w' (.slice a2 (bytesM p.d.msg).length c2) 5 1 (bytesM p.d.msg).length (bv (bytesM p.d.msg))) from by (have hq := c16 p.d.msg A.da A.dc w1 (hR.old h1).hd hR.hdz (by have := hR.hdm; omega) hR.hdb); rw [hpk] at hq; exact hq) ?_; rintro v w2 ⟨a4, c4, rfl, hn⟩; refine LR.back (h1.newSl hn) ?_; clear hn h1) | (refine CallsTo.mono (show CallsTo Tryz.prog 31 [.pointer (some ⟨bw, 0, none⟩), .slice a4 (bytesM p.d.msg).length c4] w1 _ from c89 bw a3 a4 c3 c4 (encs [p.kind, p.to] ++ encs [p.d.rseq, p.d.rrep, p.d.seq, p.d.sender, p.d.stamp]) (bytesM p.d.msg) w1 (h1.holds (wrA 131 [] bw a3 c3 _) memZ) (h1.rd_of_own memZ) (fun e => (ownsRow_some (h1.g0) e).2) (fun k hk hf => by obtain ⟨_, ad, e, rfl⟩ := hk; subst e; exact St.apart2 (y := wrA 131 [] bw a3 c3 (encs [p.kind, p.to] ++ encs [p.d.rseq, p.d.rrep, p.d.seq, p.d.sender, p.d.stamp])) h1 (.inl subZ) rfl ad.block (x := osl (.slice (some ad) (bytesM p.d.msg).length c4) 5 1 (bytesM p.d.msg).length (bv (bytesM p.d.msg))) rfl hf) (by simp only [List.length_append]; omega) (by omega)) ?_; rintro v w2 ⟨aZ, cZ, rfl, st⟩; rw [hbody] at st; refine LR.back (St.did h1 selZ rfl st (wrA_dep _ _ _ _)) ?_; clear st h1) | (refine CallsTo.mono (show CallsTo Tryz.prog 33 [.pointer (some ⟨bw, 0, none⟩)] w1 _ from c80 bw aZ cZ (bodyP p) w1 (h1.holds (wrA 131 [] bw aZ cZ (bodyP p)) memZ) (by omega)) ?_; rintro v w2 ⟨a8, c8, rfl, hn⟩; refine LR.back (h1.newSl hn) ?_; clear hn h1) | (refine CallsTo.mono (show CallsTo Tryz.prog 32 [.slice a8 (bodyP p).length c8] w1 _ from e32 a8 c8 (bodyP p) w1 (h1.rd_of_own memZ) hbb (fun e => (ownsRow_some h1.g0 e).2) (by omega)) ?_; rintro v w2 ⟨a9, c9, rfl, hn⟩; refine LR.back (h1.newSl hn) ?_; clear hn h1)))|((first|refine kR' ?_ ?_|refine kQ' ?_ ?_);all_goals(intro hc;try simp only[hcs]at hc;try(exfalso;first|contradiction|omega))))
    (apply ret2; (· exact rfl); intro w' hS)
    exact ⟨a9, c9, rfl, hS.toNew memZ⟩
  by_cases hk2 : p.kind = 2
  · have hnums : numsP p = [p.t.r1, p.t.r2, p.t.hop, p.t.seq, p.t.aru, p.t.low, p.t.stamp, p.t.idle] := by unfold numsP; rw [if_neg hk1, if_pos hk2]
    have htail : tailP p = enc p.t.ask.length ++ encs p.t.ask := by unfold tailP; rw [if_neg hk1, if_pos hk2]
    have hmk := may_ask hm hk2
    have hbody : encs [p.kind, p.to] ++ encs [p.t.r1, p.t.r2, p.t.hop, p.t.seq, p.t.aru, p.t.low, p.t.stamp, p.t.idle, (p.t.ask.length : Int)] ++ encs p.t.ask = bodyP p := by
      unfold bodyP
      rw [hnums, htail, show [p.t.r1, p.t.r2, p.t.hop, p.t.seq, p.t.aru, p.t.low, p.t.stamp, p.t.idle, (p.t.ask.length : Int)] = [p.t.r1, p.t.r2, p.t.hop, p.t.seq, p.t.aru, p.t.low, p.t.stamp, p.t.idle] ++ [(p.t.ask.length : Int)] from rfl, encs_app, encs_nat]
      simp only [List.append_assoc]
    have okl : ∀ x ∈ [p.t.r1, p.t.r2, p.t.hop, p.t.seq, p.t.aru, p.t.low, p.t.stamp, p.t.idle, (p.t.ask.length : Int)], okN x := fun x hx => by
      rw [show [p.t.r1, p.t.r2, p.t.hop, p.t.seq, p.t.aru, p.t.low, p.t.stamp, p.t.idle, (p.t.ask.length : Int)] = [p.t.r1, p.t.r2, p.t.hop, p.t.seq, p.t.aru, p.t.low, p.t.stamp, p.t.idle] ++ [(p.t.ask.length : Int)] from rfl, ← hnums] at hx
      rcases List.mem_append.1 hx with hx | hx
      · exact okn x hx
      · simp only [List.mem_cons, List.not_mem_nil, or_false] at hx; subst hx; exact okN_nat (by omega)
    have hl9 := encs_len [p.t.r1, p.t.r2, p.t.hop, p.t.seq, p.t.aru, p.t.low, p.t.stamp, p.t.idle, (p.t.ask.length : Int)]
    simp only [List.length_cons, List.length_nil] at hl9
    repeat'(first|(apply Go.Hb.kK;(iterate 4 exact rfl);intro bs2)|refine kv' ?_|apply jJ|refine jE' ?_|refine jp' ?_|(apply jc;kernel_rfl)|refine kg' ?_|refine kG' ?_|refine kB' fun _=>?_|refine kA' fun _=>?_|refine kK' fun _=>?_|refine kU' ?_|((first|refine kR' ?_ ?_|refine kQ' ?_ ?_);all_goals(intro hc;try simp only[hcs]at hc;try(exfalso;first|contradiction|omega))))
    apply LR.call
    · exact rfl
    intro w1 h1
    refine CallsTo.mono (show CallsTo Tryz.prog 29 [.pointer (some ⟨bw, 0, none⟩), .slice (some ⟨bs2, 0, none⟩) 9 9] w1 _ from e29b (xs := [p.t.r1, p.t.r2, p.t.hop, p.t.seq, p.t.aru, p.t.low, p.t.stamp, p.t.idle, (p.t.ask.length : Int)]) h1 memZ subZ (by first | omega | (simp only [List.length_append]; omega)) (by simp) okl) ?_
    rintro v w2 ⟨a3, c3, rfl, st⟩
    refine LR.back (St.did h1 selZ rfl st (wrA_dep _ _ _ _)) ?_
    clear st h1

    repeat'(first|refine kv' ?_|apply jJ|refine jE' ?_|refine jp' ?_|(apply jc;kernel_rfl)|refine kg' ?_|refine kG' ?_|refine kB' fun _=>?_|refine kA' fun _=>?_|refine kK' fun _=>?_|refine kU' ?_|((first|refine kR' ?_ ?_|refine kQ' ?_ ?_);all_goals(intro hc;try simp only[hcs]at hc;try(exfalso;first|contradiction|omega))))
    apply LR.call
    · exact rfl
    intro w1 h1
    refine CallsTo.mono (show CallsTo Tryz.prog 29 [.pointer (some ⟨bw, 0, none⟩), .slice A.ta p.t.ask.length A.tc] w1 _ from e29 bw a3 A.ta c3 A.tc (encs [p.kind, p.to] ++ encs [p.t.r1, p.t.r2, p.t.hop, p.t.seq, p.t.aru, p.t.low, p.t.stamp, p.t.idle, (p.t.ask.length : Int)]) p.t.ask w1 (h1.holds (wrA 131 [] bw a3 c3 _) memZ) (hR.old h1).ht (fun k hk => h1.oldApart (x := wrA 131 [] bw a3 c3 _) memZ rfl hR.ht k hk) (by simp only [List.length_append]; omega) (by omega) hmk.2) ?_
    rintro v w2 ⟨aZ, cZ, rfl, st⟩
    rw [hbody] at st
    refine LR.back (St.did h1 selZ rfl st (wrA_dep _ _ _ _)) ?_
    clear st h1
    repeat'(first|(apply CW.reg_heldC)|refine kv' ?_|apply jJ|refine jE' ?_|refine jp' ?_|(apply jc;kernel_rfl)|refine kg' ?_|refine kG' ?_|refine kB' fun _=>?_|refine kA' fun _=>?_|refine kK' fun _=>?_|refine kU' ?_|(apply LR.call; (· exact rfl); (intro w1 h1; first | (refine CallsTo.mono (show CallsTo Tryz.prog 33 [.pointer (some ⟨bw, 0, none⟩)] w1 _ from c80 bw aZ cZ (bodyP p) w1 (h1.holds (wrA 131 [] bw aZ cZ (bodyP p)) memZ) (by omega)) ?_; rintro v w2 ⟨a8, c8, rfl, hn⟩; refine LR.back (h1.newSl hn) ?_; clear hn h1) | (refine CallsTo.mono (show CallsTo Tryz.prog 32 [.slice a8 (bodyP p).length c8] w1 _ from e32 a8 c8 (bodyP p) w1 (h1.rd_of_own memZ) hbb (fun e => (ownsRow_some h1.g0 e).2) (by omega)) ?_; rintro v w2 ⟨a9, c9, rfl, hn⟩; refine LR.back (h1.newSl hn) ?_; clear hn h1)))|((first|refine kR' ?_ ?_|refine kQ' ?_ ?_);all_goals(intro hc;try simp only[hcs]at hc;try(exfalso;first|contradiction|omega))))
    (apply ret2; (· exact rfl); intro w' hS)
    exact ⟨a9, c9, rfl, hS.toNew memZ⟩
  by_cases hk3 : p.kind = 3
  · have hnums : numsP p = [p.j1, p.j2, p.j3] := by unfold numsP; rw [if_neg hk1, if_neg hk2, if_pos hk3]
    have htail : tailP p = [] := by unfold tailP; rw [if_neg hk1, if_neg hk2, if_neg (by omega)]
    have hbody : encs [p.kind, p.to] ++ encs [p.j1, p.j2, p.j3] = bodyP p := by unfold bodyP; rw [hnums, htail, List.append_nil]
    rw [hnums] at okn hl1
    simp only [List.length_cons, List.length_nil] at hl1
    repeat'(first|(apply Go.Hb.kK;(iterate 4 exact rfl);intro bs2)|refine kv' ?_|apply jJ|refine jE' ?_|refine jp' ?_|(apply jc;kernel_rfl)|refine kg' ?_|refine kG' ?_|refine kB' fun _=>?_|refine kA' fun _=>?_|refine kK' fun _=>?_|refine kU' ?_|((first|refine kR' ?_ ?_|refine kQ' ?_ ?_);all_goals(intro hc;try simp only[hcs]at hc;try(exfalso;first|contradiction|omega))))
    apply LR.call
    · exact rfl
    intro w1 h1
    refine CallsTo.mono (show CallsTo Tryz.prog 29 [.pointer (some ⟨bw, 0, none⟩), .slice (some ⟨bs2, 0, none⟩) 3 3] w1 _ from e29b (xs := [p.j1, p.j2, p.j3]) h1 memZ subZ (by first | omega | (simp only [List.length_append]; omega)) (by simp) okn) ?_
    rintro v w2 ⟨aZ, cZ, rfl, st⟩
    rw [hbody] at st
    refine LR.back (St.did h1 selZ rfl st (wrA_dep _ _ _ _)) ?_
    clear st h1

    repeat'(first|(apply CW.reg_heldC)|refine kv' ?_|apply jJ|refine jE' ?_|refine jp' ?_|(apply jc;kernel_rfl)|refine kg' ?_|refine kG' ?_|refine kB' fun _=>?_|refine kA' fun _=>?_|refine kK' fun _=>?_|refine kU' ?_|(apply LR.call; (· exact rfl); (intro w1 h1; first | (refine CallsTo.mono (show CallsTo Tryz.prog 33 [.pointer (some ⟨bw, 0, none⟩)] w1 _ from c80 bw aZ cZ (bodyP p) w1 (h1.holds (wrA 131 [] bw aZ cZ (bodyP p)) memZ) (by omega)) ?_; rintro v w2 ⟨a8, c8, rfl, hn⟩; refine LR.back (h1.newSl hn) ?_; clear hn h1) | (refine CallsTo.mono (show CallsTo Tryz.prog 32 [.slice a8 (bodyP p).length c8] w1 _ from e32 a8 c8 (bodyP p) w1 (h1.rd_of_own memZ) hbb (fun e => (ownsRow_some h1.g0 e).2) (by omega)) ?_; rintro v w2 ⟨a9, c9, rfl, hn⟩; refine LR.back (h1.newSl hn) ?_; clear hn h1)))|((first|refine kR' ?_ ?_|refine kQ' ?_ ?_);all_goals(intro hc;try simp only[hcs]at hc;try(exfalso;first|contradiction|omega))))
    (apply ret2; (· exact rfl); intro w' hS)
    exact ⟨a9, c9, rfl, hS.toNew memZ⟩
  by_cases hk4 : p.kind = 4
  · have hnums : numsP p = [p.c.r1, p.c.r2, p.c.mem, p.c.hop] := by unfold numsP; rw [if_neg hk1, if_neg hk2, if_neg hk3, if_pos hk4]
    have htail : tailP p = enc p.c.ents.length ++ encs (p.c.ents.flatMap Ent.nums) := by unfold tailP; rw [if_neg hk1, if_neg hk2, if_pos hk4]
    have hmk := may_ents hm hk4
    have hbody : encs [p.kind, p.to] ++ encs [p.c.r1, p.c.r2, p.c.mem, p.c.hop, (p.c.ents.length : Int)] ++ encs (p.c.ents.flatMap Ent.nums) = bodyP p := by
      unfold bodyP
      rw [hnums, htail, show [p.c.r1, p.c.r2, p.c.mem, p.c.hop, (p.c.ents.length : Int)] = [p.c.r1, p.c.r2, p.c.mem, p.c.hop] ++ [(p.c.ents.length : Int)] from rfl, encs_app, encs_nat]
      simp only [List.append_assoc]
    have okl : ∀ x ∈ [p.c.r1, p.c.r2, p.c.mem, p.c.hop, (p.c.ents.length : Int)], okN x := fun x hx => by
      rw [show [p.c.r1, p.c.r2, p.c.mem, p.c.hop, (p.c.ents.length : Int)] = [p.c.r1, p.c.r2, p.c.mem, p.c.hop] ++ [(p.c.ents.length : Int)] from rfl, ← hnums] at hx
      rcases List.mem_append.1 hx with hx | hx
      · exact okn x hx
      · simp only [List.mem_cons, List.not_mem_nil, or_false] at hx; subst hx; exact okN_nat (by omega)
    have hl9 := encs_len [p.c.r1, p.c.r2, p.c.mem, p.c.hop, (p.c.ents.length : Int)]
    simp only [List.length_cons, List.length_nil] at hl9
    repeat'(first|(apply kA;exact rfl;intro bc)|(apply Go.Hb.kK;(iterate 4 exact rfl);intro bs2)|refine kv' ?_|apply jJ|refine jE' ?_|refine jp' ?_|(apply jc;kernel_rfl)|refine kg' ?_|refine kG' ?_|refine kB' fun _=>?_|refine kA' fun _=>?_|refine kK' fun _=>?_|refine kU' ?_|((first|refine kR' ?_ ?_|refine kQ' ?_ ?_);all_goals(intro hc;try simp only[hcs]at hc;try(exfalso;first|contradiction|omega))))
    apply LR.call
    · exact rfl
    intro w1 h1
    refine CallsTo.mono (show CallsTo Tryz.prog 29 [.pointer (some ⟨bw, 0, none⟩), .slice (some ⟨bs2, 0, none⟩) 5 5] w1 _ from e29b (xs := [p.c.r1, p.c.r2, p.c.mem, p.c.hop, (p.c.ents.length : Int)]) h1 memZ subZ (by first | omega | (simp only [List.length_append]; omega)) (by simp) okl) ?_
    rintro v w2 ⟨a3, c3, rfl, st⟩
    refine LR.back (St.did h1 selZ rfl st (wrA_dep _ _ _ _)) ?_
    clear st h1

    obtain ⟨H, hH⟩ : ∃ H, encs [p.kind, p.to] ++ encs [p.c.r1, p.c.r2, p.c.mem, p.c.hop, (p.c.ents.length : Int)] = H := ⟨_, rfl⟩
    have hHl : H.length ≤ 100 := by rw [← hH, List.length_append]; omega
    rw [hH] at hbody ⊢
    repeat'(first|refine kv' ?_|apply jJ|refine jE' ?_|refine jp' ?_|(apply jc;kernel_rfl)|refine kg' ?_|refine kG' ?_|refine kB' fun _=>?_|refine kA' fun _=>?_|refine kK' fun _=>?_|refine kU' ?_|((first|refine kR' ?_ ?_|refine kQ' ?_ ?_);all_goals(intro hc;try simp only[hcs]at hc;try(exfalso;first|contradiction|omega))))
    apply CW.loop [11, 12, 136, 137, 138, 139, 140, 141, 142, 143, 144, 145, 146, 147, 148, 149, 150, 151, 152, 153, 154, 155, 156, 157, 158, 159, 160, 161, 162, 163, 164] (fun s : Est => s.i ≤ p.c.ents.length) (fun s => [(11, Value.int .i64 (s.i : Int))])
      (fun s => St w NoF [.own bc (.cells (p.c.cells A.ca A.cc).toArray 38 (0, 0)), wrA 131 [] bw s.a s.c (H ++ encs ((p.c.ents.take s.i).flatMap Ent.nums)), .own b1 (.cells (p.cells A).toArray 42 (0, 0))]) (fun s => p.c.ents.length - s.i)
    · exact fun w' hw' => ⟨⟨0, a3, c3⟩, Nat.zero_le _, ⟨rfl, trivial⟩, by
        refine (hw'.sub (L' := [.own bc (.cells (p.c.cells A.ca A.cc).toArray 38 (0, 0)), wrA 131 [] bw a3 c3 H, .own b1 (.cells (p.cells A).toArray 42 (0, 0))]) subZ).cast ?_
        simp [encs]⟩
    rintro ⟨i, a4, c4⟩ g1 hi
    simp only at hi ⊢
    by_cases hlt : i < p.c.ents.length
    · have hlen := encs_len ((p.c.ents.take i).flatMap Ent.nums)
      have hlen2 : ((p.c.ents.take i).flatMap Ent.nums).length ≤ 60 := by rw [rows_lenN ent_len, List.length_take]; omega
      obtain ⟨e, he⟩ : ∃ e, p.c.ents[i] = e := ⟨_, rfl⟩
      have hke : ∀ x ∈ [e.node, e.o1, e.o2, e.aru, e.high, e.clock], okN x := by rw [← he]; exact hmk.2 _ (List.getElem_mem hlt)
      have hcr := hR.hc
      obtain ⟨be, oe, hae⟩ : ∃ be oe, A.ca = some ⟨be, oe, none⟩ := by
        have h2 := hR.hc
        obtain ⟨be, oe, h3⟩ := h2.form (rows_ne Ent.cells_len (by omega) hlt)
        exact ⟨be, oe, h3⟩
      have hcl : ∀ w', Rd w' A.ca (p.c.ents.flatMap Ent.cells) → ∀ j v, e.cells[j]? = some v → w'.cell? ((⟨be, oe + (i : Int).toNat * 6, none⟩ : Addr).add j) = some v := fun w' h => by
        rw [← he]
        rw [hae] at h
        exact rd_row Ent.cells_len h hlt (by omega)
      have hsl : ∀ f : Frm, ∀ x, f.ev x = .slice A.ca p.c.ents.length A.cc → f.ev x = .slice (some ⟨be, oe, none⟩) p.c.ents.length A.cc := fun f x h => by rw [h, hae]
      have e3 : H ++ encs ((p.c.ents.take (i + 1)).flatMap Ent.nums) = H ++ encs ((p.c.ents.take i).flatMap Ent.nums) ++ encs [e.node, e.o1, e.o2, e.aru, e.high, e.clock] := by
        rw [List.take_add_one, List.getElem?_eq_getElem hlt, List.flatMap_append, encs_app, ← List.append_assoc, he]
        simp [Ent.nums]
      repeat'(first|(apply kA;exact rfl;intro be2)|(apply Go.Hb.kK;(iterate 4 exact rfl);intro bs3)|refine kv' ?_|apply jJ|refine jE' ?_|refine jp' ?_|(apply jc;kernel_rfl)|refine kg' ?_|refine kG' ?_|refine kB' fun _=>?_|refine kA' fun _=>?_|refine kK' fun _=>?_|refine kU' ?_|(apply LR.ev; (· apply Ev.indexAddr; (· exact hsl _ _ rfl); (· exact rfl); (· omega); (· omega)); (· exact rfl))|(apply LR.ev; (· apply Ev.load_agg_at (cs := e.cells); (· exact rfl); (· exact rfl); (· intro w' hw'; exact hcl w' (hw'.oldRd hcr))); (· exact rfl))|((first|refine kR' ?_ ?_|refine kQ' ?_ ?_);all_goals(intro hc;try simp only[hcs]at hc;try(exfalso;first|contradiction|omega))))
      apply LR.call
      · exact rfl
      intro w1 h1
      refine CallsTo.mono (show CallsTo Tryz.prog 29 [.pointer (some ⟨bw, 0, none⟩), .slice (some ⟨bs3, 0, none⟩) 6 6] w1 _ from e29b (xs := [e.node, e.o1, e.o2, e.aru, e.high, e.clock]) h1 memZ subZ (by first | omega | (simp only [List.length_append]; omega)) (by simp) hke) ?_
      rintro v w2 ⟨a5, c5, rfl, st⟩
      refine LR.back (St.did h1 selZ rfl st (wrA_dep _ _ _ _)) ?_
      clear st h1

      rw [← e3]
      repeat'(first|refine kv' ?_|apply jJ|refine jE' ?_|refine jp' ?_|(apply jc;kernel_rfl)|refine kg' ?_|refine kG' ?_|refine kB' fun _=>?_|refine kA' fun _=>?_|refine kK' fun _=>?_|refine kU' ?_|(apply addX;(iterate 2 exact rfl);(iterate 2(first|omega|(dsimp only;omega)));exact rfl)|((first|refine kR' ?_ ?_|refine kQ' ?_ ?_);all_goals(intro hc;try simp only[hcs]at hc;try(exfalso;first|contradiction|omega))))
      refine At.again (⟨i + 1, a5, c5⟩ : Est) (by show i + 1 ≤ _; omega) ?_ ⟨rfl, trivial⟩ (fun w' hw' => hw'.sub subZ) (by show p.c.ents.length - (i + 1) < p.c.ents.length - i; omega)
      (repeat (first | exact Out.refl _ _ | exact Out.mix | (apply Out.upd; (· exact rfl)) | (apply Out.updL; (· exact rfl)) | (apply Out.mixs; (· exact rfl))))
    · have hie : i = p.c.ents.length := by omega
      subst hie
      rw [List.take_length, hbody]
      obtain ⟨aZ, rfl⟩ : ∃ x, x = a4 := ⟨_, rfl⟩
      obtain ⟨cZ, rfl⟩ : ∃ x, x = c4 := ⟨_, rfl⟩
      repeat'(first|(apply CW.reg_heldC)|refine kv' ?_|apply jJ|refine jE' ?_|refine jp' ?_|(apply jc;kernel_rfl)|refine kg' ?_|refine kG' ?_|refine kB' fun _=>?_|refine kA' fun _=>?_|refine kK' fun _=>?_|refine kU' ?_|(apply LR.call; (· exact rfl); (intro w1 h1; first | (refine CallsTo.mono (show CallsTo Tryz.prog 33 [.pointer (some ⟨bw, 0, none⟩)] w1 _ from c80 bw aZ cZ (bodyP p) w1 (h1.holds (wrA 131 [] bw aZ cZ (bodyP p)) memZ) (by omega)) ?_; rintro v w2 ⟨a8, c8, rfl, hn⟩; refine LR.back (h1.newSl hn) ?_; clear hn h1) | (refine CallsTo.mono (show CallsTo Tryz.prog 32 [.slice a8 (bodyP p).length c8] w1 _ from e32 a8 c8 (bodyP p) w1 (h1.rd_of_own memZ) hbb (fun e => (ownsRow_some h1.g0 e).2) (by omega)) ?_; rintro v w2 ⟨a9, c9, rfl, hn⟩; refine LR.back (h1.newSl hn) ?_; clear hn h1)))|((first|refine kR' ?_ ?_|refine kQ' ?_ ?_);all_goals(intro hc;try simp only[hcs]at hc;try(exfalso;first|contradiction|omega))))
      (apply ret2; (· exact rfl); intro w' hS)
      exact ⟨a9, c9, rfl, hS.toNew memZ⟩
  have hk5 : p.kind = 5 := by omega
  have hnums : numsP p = [p.b1, p.b2, p.b3] := by unfold numsP; rw [if_neg hk1, if_neg hk2, if_neg hk3, if_neg hk4]
  have htail : tailP p = [] := by unfold tailP; rw [if_neg hk1, if_neg hk2, if_neg hk4]
  have hbody : encs [p.kind, p.to] ++ encs [p.b1, p.b2, p.b3] = bodyP p := by unfold bodyP; rw [hnums, htail, List.append_nil]
  rw [hnums] at okn hl1
  repeat'(first|(apply Go.Hb.kK;(iterate 4 exact rfl);intro bs2)|refine kv' ?_|apply jJ|refine jE' ?_|refine jp' ?_|(apply jc;kernel_rfl)|refine kg' ?_|refine kG' ?_|refine kB' fun _=>?_|refine kA' fun _=>?_|refine kK' fun _=>?_|refine kU' ?_|((first|refine kR' ?_ ?_|refine kQ' ?_ ?_);all_goals(intro hc;try simp only[hcs]at hc;try(exfalso;first|contradiction|omega))))
  apply LR.call
  · exact rfl
  intro w1 h1
  refine CallsTo.mono (show CallsTo Tryz.prog 29 [.pointer (some ⟨bw, 0, none⟩), .slice (some ⟨bs2, 0, none⟩) 3 3] w1 _ from e29b (xs := [p.b1, p.b2, p.b3]) h1 memZ subZ (by first | omega | (simp only [List.length_append]; omega)) (by simp) okn) ?_
  rintro v w2 ⟨aZ, cZ, rfl, st⟩
  rw [hbody] at st
  refine LR.back (St.did h1 selZ rfl st (wrA_dep _ _ _ _)) ?_
  clear st h1

  repeat'(first|(apply CW.reg_heldC)|refine kv' ?_|apply jJ|refine jE' ?_|refine jp' ?_|(apply jc;kernel_rfl)|refine kg' ?_|refine kG' ?_|refine kB' fun _=>?_|refine kA' fun _=>?_|refine kK' fun _=>?_|refine kU' ?_|(apply LR.call; (· exact rfl); (intro w1 h1; first | (refine CallsTo.mono (show CallsTo Tryz.prog 33 [.pointer (some ⟨bw, 0, none⟩)] w1 _ from c80 bw aZ cZ (bodyP p) w1 (h1.holds (wrA 131 [] bw aZ cZ (bodyP p)) memZ) (by omega)) ?_; rintro v w2 ⟨a8, c8, rfl, hn⟩; refine LR.back (h1.newSl hn) ?_; clear hn h1) | (refine CallsTo.mono (show CallsTo Tryz.prog 32 [.slice a8 (bodyP p).length c8] w1 _ from e32 a8 c8 (bodyP p) w1 (h1.rd_of_own memZ) hbb (fun e => (ownsRow_some h1.g0 e).2) (by omega)) ?_; rintro v w2 ⟨a9, c9, rfl, hn⟩; refine LR.back (h1.newSl hn) ?_; clear hn h1)))|((first|refine kR' ?_ ?_|refine kQ' ?_ ?_);all_goals(intro hc;try simp only[hcs]at hc;try(exfalso;first|contradiction|omega))))
  (apply ret2; (· exact rfl); intro w' hS)
  exact ⟨a9, c9, rfl, hS.toNew memZ⟩
end Go.Proofs.YtkolmkdbjagfcaaGreat

namespace Go.Proofs.YtkolmkdbjagfcaaGreat
open Go.Hb
attribute [local irreducible] LR CW At Ev thn blk finK noG again CallsTo DW QL dnext TW DP
set_option maxRecDepth 100000

def okS (s : RS) : Prop := Byt s.1 ∧ s.1.length ≤ 140737488355328
theorem okS_gT {s : RS} (h : okS s) : okS (gT s) := ⟨gT_byt h.1, Nat.le_trans (gT_le s) h.2⟩
abbrev codR (bc : Nat) (br : Nat) (e : Int) : Asrt := .own bc (.cells [.pointer (some ⟨br, 0, none⟩), .int .i64 e].toArray 100 (0, 0))
def rD (bc br : Nat) (a : Option Addr) (c : Nat) (s : RS) : Asrt := both (codR bc br s.2) (rrA 143 [] br a c s.1)
theorem rD_dep (bc br : Nat) (a : Option Addr) (c : Nat) (s : RS) : (rD bc br a c s).dep := both_dep (Asrt.dep_own _ _) (rrA_dep _ _ _ _ _ _)
theorem rD_e {bc br : Nat} {a : Option Addr} {c : Nat} {s : RS} {w : World} (h : (rD bc br a c s).holds w) : w.cell? ⟨bc, 1, none⟩ = some (.int .i64 s.2) := cell_own h.1
theorem rD_r {bc br : Nat} {a : Option Addr} {c : Nat} {s : RS} {w : World} (h : (rD bc br a c s).holds w) : w.cell? ⟨bc, 0, none⟩ = some (.pointer (some ⟨br, 0, none⟩)) := cell_own h.1
theorem gT_err {s : RS} (h : s.2 ≠ 0) : gT s = s := by unfold gT; rw [getS_err h]
theorem gV_err {s : RS} (h : s.2 ≠ 0) : gV s = 0 := by unfold gV; rw [getS_err h]
set_option maxHeartbeats 2000000 in
theorem e62 (bc br : Nat) (a : Option Addr) (c : Nat) (s : RS) (w : World) (h : (rD bc br a c s).holds w) (hok : okS s) :
    CallsTo Tryz.prog 62 [.pointer (some ⟨bc, 0, none⟩)] w fun v w' => ∃ a' c', v = .int .i64 (gV s) ∧ Step (rD bc br a c s) (rD bc br a' c' (gT s)) w w' := by
  have hS0 := St.one h (both_live h) (rD_dep _ _ _ _ _)
  generalize hF : (rD bc br a c s).foot = F at hS0
  refine go_in (n := 23) (hS0.part (Asrt.dep_own _ _) (rrA_dep _ _ _ _ _ _)) Tryz.func62 rfl rfl ?_
  have fin_ : ∀ {w' : World} {a' : Option Addr} {c' : Nat} {s' : RS} {R : List Asrt}, St w F (codR bc br s'.2 :: rrA 143 [] br a' c' s'.1 :: R) w' → Step (rD bc br a c s) (rD bc br a' c' s') w w' := fun hS => by
    subst hF
    exact St.step (R := _) (St.join hS rfl rfl) rfl
  by_cases he : s.2 = 0
  · have hg := getS_ok he
    have e1 : gV s = ((dec s.1).1 : Int) := by unfold gV; rw [hg]
    have e2 : gT s = (s.1.drop (dec s.1).2.1, (dec s.1).2.2) := by unfold gT; rw [hg]
    rw [e1, e2]
    repeat'(first|refine kv' ?_|apply jJ|refine jE' ?_|refine jp' ?_|(apply jc;kernel_rfl)|refine kg' ?_|refine kG' ?_|refine kB' fun _=>?_|refine kA' fun _=>?_|refine kK' fun _=>?_|refine kU' ?_|(apply LR.call; (· exact rfl); (intro w1 h1; refine CallsTo.mono (show CallsTo Tryz.prog 100 [.pointer (some ⟨br, 0, none⟩)] w1 _ from c70 br a c s.1 w1 (h1.holds (rrA 143 [] br a c s.1) memZ) hok.1 (by have := hok.2; omega)) ?_; rintro v w2 ⟨a2, c2, rfl, st⟩; refine LR.back (St.did h1 selZ rfl st (rrA_dep _ _ _ _ _ _)) ?_; clear st h1))|((first|refine kR' ?_ ?_|refine kQ' ?_ ?_);all_goals(intro hc;try simp only[hcs]at hc;try(exfalso;first|contradiction|omega))))
    (apply ret1; (· exact rfl); intro w' hS)
    exact ⟨a2, c2, rfl, fin_ (s' := (s.1.drop (dec s.1).2.1, (dec s.1).2.2)) hS⟩
  · rw [gV_err he, gT_err he]
    repeat'(first|refine kv' ?_|apply jJ|refine jE' ?_|refine jp' ?_|(apply jc;kernel_rfl)|refine kg' ?_|refine kG' ?_|refine kB' fun _=>?_|refine kA' fun _=>?_|refine kK' fun _=>?_|refine kU' ?_|((first|refine kR' ?_ ?_|refine kQ' ?_ ?_);all_goals(intro hc;try simp only[hcs]at hc;try(exfalso;first|contradiction|omega))))
    (apply ret1; (· exact rfl); intro w' hS)
    exact ⟨a, c, rfl, fin_ (s' := s) hS⟩
set_option maxHeartbeats 2000000 in
theorem e66 (bc br : Nat) (a : Option Addr) (c : Nat) (s : RS) (w : World) (h : (rD bc br a c s).holds w) (hok : okS s) :
    CallsTo Tryz.prog 66 [.pointer (some ⟨bc, 0, none⟩)] w fun v w' => ∃ a' c', v = .agg [.int .i64 (gV s), .int .i64 (gV (gT s))].toArray ∧ Step (rD bc br a c s) (rD bc br a' c' (gT (gT s))) w w' := by
  have hS0 := St.one h (both_live h) (rD_dep _ _ _ _ _)
  generalize hF : (rD bc br a c s).foot = F at hS0
  refine go_in (n := 10) hS0 Tryz.func66 rfl rfl ?_
  repeat'(first|refine kv' ?_|apply jJ|refine jE' ?_|refine jp' ?_|(apply jc;kernel_rfl)|refine kg' ?_|refine kG' ?_|refine kB' fun _=>?_|refine kA' fun _=>?_|refine kK' fun _=>?_|refine kU' ?_|(apply LR.call; (· exact rfl); (intro w1 h1; refine CallsTo.mono (show CallsTo Tryz.prog 62 [.pointer (some ⟨bc, 0, none⟩)] w1 _ from e62 bc br _ _ _ w1 (h1.holds (rD bc br _ _ _) memZ) (by repeat (first | exact hok | apply okS_gT))) ?_; rintro v w2 ⟨a2, c2, rfl, st⟩; refine LR.back (St.did h1 selZ rfl st (rD_dep _ _ _ _ _)) ?_; clear st h1))|((first|refine kR' ?_ ?_|refine kQ' ?_ ?_);all_goals(intro hc;try simp only[hcs]at hc;try(exfalso;first|contradiction|omega))))
  (apply ret1c; (· exact rfl); (· exact inferInstance); (· exact rfl); (· (repeat (first | exact List.Mem.head _ | apply List.Mem.tail))); (· exact rfl); intro w' hS)
  subst hF
  exact ⟨_, _, rfl, (front hS 1 rfl rfl).step rfl⟩
def manyS (most : Int) (s : RS) : RS := if (gT s).2 = 0 ∧ most < gV s then ((gT s).1, 5) else gT s
theorem okS_many {most : Int} {s : RS} (h : okS s) : okS (manyS most s) := by
  unfold manyS
  have := okS_gT h
  split
  · exact this
  · exact this
theorem lstR_many {α : Type} (f : RS → α × RS) (most : Int) (s : RS) : lstR f most s = rdL f (if (manyS most s).2 ≠ 0 then 0 else (gV s).toNat) (manyS most s) := by
  have g1 : (getS s).2 = gT s := rfl
  have g2 : (getS s).1 = gV s := rfl
  by_cases h1 : (gT s).2 = 0
  · by_cases h2 : most < gV s
    · have e : manyS most s = ((gT s).1, 5) := by unfold manyS; rw [if_pos ⟨h1, h2⟩]
      rw [e]
      unfold lstR
      rw [g1, g2, if_neg (show ¬ (gT s).2 ≠ 0 by simp [h1]), if_pos (show most < gV s from h2), if_pos (by simp)]
      rfl
    · have e : manyS most s = gT s := by unfold manyS; rw [if_neg (fun h => h2 h.2)]
      rw [e]
      unfold lstR
      rw [g1, g2, if_neg (show ¬ (gT s).2 ≠ 0 by simp [h1]), if_neg (show ¬ most < gV s from h2), if_neg (by simp [h1])]
  · have e : manyS most s = gT s := by unfold manyS; rw [if_neg (fun h => h1 h.1)]
    rw [e]
    unfold lstR
    rw [g1, if_pos (show (gT s).2 ≠ 0 from h1), if_pos h1]
    rfl
set_option maxHeartbeats 2000000 in
theorem e103 (bc br : Nat) (a : Option Addr) (c : Nat) (s : RS) (most : Int) (w : World) (h : (rD bc br a c s).holds w) (hok : okS s) :
    CallsTo Tryz.prog 103 [.pointer (some ⟨bc, 0, none⟩), .int .i64 most] w fun v w' => ∃ a' c', v = .int .i64 (gV s) ∧ Step (rD bc br a c s) (rD bc br a' c' (manyS most s)) w w' := by
  have hS0 := St.one h (both_live h) (rD_dep _ _ _ _ _)
  generalize hF : (rD bc br a c s).foot = F at hS0
  refine go_in (n := 22) hS0 Tryz.func103 rfl rfl ?_
  repeat'(first|refine kv' ?_|apply jJ|refine jE' ?_|refine jp' ?_|(apply jc;kernel_rfl)|refine kg' ?_|refine kG' ?_|refine kB' fun _=>?_|refine kA' fun _=>?_|refine kK' fun _=>?_|refine kU' ?_|((first|refine kR' ?_ ?_|refine kQ' ?_ ?_);all_goals(intro hc;try simp only[hcs]at hc;try(exfalso;first|contradiction|omega))))
  apply LR.call
  · exact rfl
  intro w1 h1
  refine CallsTo.mono (show CallsTo Tryz.prog 62 [.pointer (some ⟨bc, 0, none⟩)] w1 _ from e62 bc br a c s w1 (h1.holds (rD bc br a c s) memZ) hok) ?_
  rintro v w2 ⟨a2, c2, rfl, st⟩
  have h2 : St w F [codR bc br (gT s).2, rrA 143 [] br a2 c2 (gT s).1] w2 := (St.did h1 (Sel.head _ _ _) rfl st (rD_dep _ _ _ _ _)).part (Asrt.dep_own _ _) (rrA_dep _ _ _ _ _ _)
  refine LR.back h2 ?_
  clear st h1 h2
  have fin_ : ∀ {w' : World} {a' : Option Addr} {c' : Nat} {s' : RS} {R : List Asrt}, St w F (codR bc br s'.2 :: rrA 143 [] br a' c' s'.1 :: R) w' → Step (rD bc br a c s) (rD bc br a' c' s') w w' := fun hS => by
    subst hF
    exact St.step (R := _) (St.join hS rfl rfl) rfl
  repeat'(first|refine kv' ?_|apply jJ|refine jE' ?_|refine jp' ?_|(apply jc;kernel_rfl)|refine kg' ?_|refine kG' ?_|refine kB' fun _=>?_|refine kA' fun _=>?_|refine kK' fun _=>?_|refine kU' ?_|((first|refine kR' ?_ ?_|refine kQ' ?_ ?_);all_goals(intro hc;try simp only[hcs]at hc;try(exfalso;first|contradiction|omega))))
  all_goals (
    (apply ret1; (· exact rfl); intro w' hS)
    refine ⟨a2, c2, rfl, ?_⟩
    first
      | (rw [show manyS most s = ((gT s).1, 5) from by unfold manyS; rw [if_pos ⟨by assumption, by assumption⟩]]; exact fin_ (s' := ((gT s).1, 5)) hS)
      | (rw [show manyS most s = gT s from by unfold manyS; rw [if_neg (by simp_all)]]; exact fin_ (s' := gT s) hS)
      | (rw [show manyS most s = gT s from by unfold manyS; rw [if_neg (fun h => by have h1 := h.1; have h2 := h.2; first | contradiction | omega)]]; exact fin_ (s' := gT s) hS))
def datV (u : RS) : Dat := { zeroDat with rseq := gV u, rrep := gV (gT u), seq := gV (gT (gT u)), sender := gV (gT (gT (gT u))), stamp := gV (gT (gT (gT (gT u)))), msg := (msgR (gT (gT (gT (gT (gT u)))))).1 }
def dat5 (u : RS) (m : Msg) : Dat := { zeroDat with rseq := gV u, rrep := gV (gT u), seq := gV (gT (gT u)), sender := gV (gT (gT (gT u))), stamp := gV (gT (gT (gT (gT u)))), msg := m }
theorem datV_5 (u : RS) : datV u = dat5 u (msgR (gT (gT (gT (gT (gT u)))))).1 := rfl
set_option maxHeartbeats 8000000 in
theorem e63 (bc br : Nat) (a : Option Addr) (c : Nat) (s : RS) (w : World) (h : (rD bc br a c s).holds w) (hok : okS s) :
    CallsTo Tryz.prog 63 [.pointer (some ⟨bc, 0, none⟩)] w fun v w' => ∃ ma mc a' c', v = (datV s).val ma mc ∧ (ma = none → mc = 0) ∧
      Step (rD bc br a c s) (both (rD bc br a' c' (msgR (gT (gT (gT (gT (gT s)))))).2) (osl (.slice ma (datV s).msg.body.length mc) 5 1 (datV s).msg.body.length (bv (datV s).msg.body))) w w' := by
  have hS0 := St.one h (both_live h) (rD_dep _ _ _ _ _)
  generalize hF : (rD bc br a c s).foot = F at hS0
  refine go_in (n := 52) hS0 Tryz.func63 rfl rfl ?_
  rw [datV_5]
  have h5 : okS (gT (gT (gT (gT (gT s))))) := by repeat (first | exact hok | apply okS_gT)
  obtain ⟨u, hu⟩ : ∃ u, gT (gT (gT (gT (gT s)))) = u := ⟨_, rfl⟩
  rw [hu] at h5 ⊢
  obtain ⟨r0, hr0⟩ : ∃ r, msgR u = r := ⟨_, rfl⟩
  have hr1 := hr0
  rw [hr0]
  unfold msgR at hr1
  have fin_ : ∀ {w' : World} {a' : Option Addr} {c' : Nat} {s' : RS} {X : Asrt} {R : List Asrt}, St w F (X :: rD bc br a' c' s' :: R) w' → X.excl = true → Step (rD bc br a c s) (both (rD bc br a' c' s') X) w w' := fun hS hx => by
    subst hF
    exact St.step (R := _) (St.join (St.swap hS) rfl hx) rfl
  obtain ⟨l, e⟩ := u
  simp only at hr1 h5
  have fin2 : ∀ {w' : World} {a' : Option Addr} {c' : Nat} {s' : RS} {X : Asrt} {R : List Asrt}, St w F (X :: rrA 143 [] br a' c' s'.1 :: codR bc br s'.2 :: R) w' → X.excl = true → Step (rD bc br a c s) (both (rD bc br a' c' s') X) w w' := fun {w' a' c' s' X R} hS hx => by
    have h1 : St w F (codR bc br s'.2 :: rrA 143 [] br a' c' s'.1 :: X :: R) w' := front (front hS 1 rfl rfl) 2 rfl rfl
    subst hF
    exact St.step (R := R) (St.join (x := rD bc br a' c' s') (St.join h1 rfl rfl) rfl hx) rfl
  by_cases he : e = 0
  · subst he
    rw [if_neg (by simp)] at hr1
    have hof := @octs_facts 512 l
    obtain ⟨⟨ob, oe, orr⟩, hoc⟩ : ∃ r, octs 512 l = r := ⟨_, rfl⟩
    rw [hoc] at hr1 hof
    simp only at hr1 hof
    repeat'(first|refine kv' ?_|apply jJ|refine jE' ?_|refine jp' ?_|(apply jc;kernel_rfl)|refine kg' ?_|refine kG' ?_|refine kB' fun _=>?_|refine kA' fun _=>?_|refine kK' fun _=>?_|refine kU' ?_|(apply LR.call; (· exact rfl); (intro w1 h1; first | (refine CallsTo.mono (show CallsTo Tryz.prog 62 [.pointer (some ⟨bc, 0, none⟩)] w1 _ from e62 bc br _ _ _ w1 (h1.holds (rD bc br _ _ _) memZ) (by repeat (first | exact hok | apply okS_gT))) ?_; rintro v w2 ⟨a2, c2, rfl, st⟩; refine LR.back (St.did h1 selZ rfl st (rD_dep _ _ _ _ _)) ?_; clear st h1) | (refine CallsTo.mono (show CallsTo Tryz.prog 66 [.pointer (some ⟨bc, 0, none⟩)] w1 _ from e66 bc br _ _ _ w1 (h1.holds (rD bc br _ _ _) memZ) (by repeat (first | exact hok | apply okS_gT))) ?_; rintro v w2 ⟨a2, c2, rfl, st⟩; refine LR.back (St.did h1 selZ rfl st (rD_dep _ _ _ _ _)) ?_; clear st h1)))|(apply LR.ev; (· first | (apply Ev.load (v := .int .i64 0); (· exact rfl); (· exact fun w' hw' => by have h9 := rD_e (hw'.holds (rD bc br _ _ _) memZ); rw [hu] at h9; exact h9)) | (apply Ev.load (v := .pointer (some ⟨br, 0, none⟩)); (· exact rfl); (· exact fun w' hw' => rD_r (hw'.holds (rD bc br _ _ _) memZ)))); (· exact rfl))|((first|refine kR' ?_ ?_|refine kQ' ?_ ?_);all_goals(intro hc;try simp only[hcs]at hc;try(exfalso;first|contradiction|omega))))
    apply LR.call
    · exact rfl
    intro w1 h1
    rw [hu] at h1
    have h2 := (front h1 2 rfl rfl).part (Asrt.dep_own _ _) (rrA_dep _ _ _ _ _ _)
    refine CallsTo.mono (show CallsTo Tryz.prog 101 [.pointer (some ⟨br, 0, none⟩), .int .i64 512] w1 _ from c71 br _ _ l 512 w1 (h2.holds (rrA 143 [] br _ _ l) (mT _ (mH _ _))) h5.1 h5.2) ?_
    rw [hoc]
    rintro v w2 ⟨a3, c3, a4, c4, hv, st⟩
    replace hv : v = .tuple [.slice a4 ob.length c4, .int .i64 oe].toArray := hv
    subst hv
    have h3 := (front (St.did h2 (.tail _ (.head _ _ _)) rfl (St.step (St.join st rfl rfl) rfl) (both_dep (rrA_dep _ _ _ _ _ _) (osl.dep _ _ _ _ _))) 1 rfl rfl).part (rrA_dep _ _ _ _ _ _) (osl.dep _ _ _ _ _)
    refine LR.back h3 ?_
    clear h1 h2 h3 st
    by_cases ho1 : oe = 0
    · subst ho1
      rw [if_neg (by simp)] at hr1
      have hof := hof rfl
      have hob : Byt ob := fun x hx => h5.1 x (hof.2 x hx)
      obtain ⟨⟨m, e2⟩, hum⟩ : ∃ r, unpack ob = r := ⟨_, rfl⟩
      rw [hum] at hr1
      simp only at hr1
      subst hr1
      repeat'(first|refine kv' ?_|apply jJ|refine jE' ?_|refine jp' ?_|(apply jc;kernel_rfl)|refine kg' ?_|refine kG' ?_|refine kB' fun _=>?_|refine kA' fun _=>?_|refine kK' fun _=>?_|refine kU' ?_|(apply LR.call; (· exact rfl); (intro w1 h1; refine CallsTo.mono (show CallsTo Tryz.prog 102 [.slice a4 ob.length c4] w1 _ from d24 a4 c4 ob w1 (h1.rd_of_own memZ) (fun e => (ownsRow_some (h1.holds (osl (.slice a4 ob.length c4) 5 1 ob.length (bv ob)) memZ) e).2) (by have := h5.2; simp only at this; omega) hob) ?_; rw [hum]; rintro v w2 ⟨a5, c5, hv, hn⟩; replace hv : v = .tuple [m.val a5 c5, .int .i64 e2].toArray := hv; subst hv; replace hn : NewSl w1 w2 (.slice a5 m.body.length c5) 5 1 m.body.length (bv m.body) := hn; refine LR.back (h1.newSl hn) ?_; clear hn h1))|((first|refine kR' ?_ ?_|refine kQ' ?_ ?_);all_goals(intro hc;try simp only[hcs]at hc;try(exfalso;first|contradiction|omega))))
      (apply ret1c; (· exact rfl); (· exact inferInstance); (· exact rfl); (· (repeat (first | exact List.Mem.head _ | apply List.Mem.tail))); (· exact rfl); intro w' hS)
      refine ⟨a5, c5, a3, c3, rfl, ?_, fin2 (s' := (orr, e2)) (X := osl (.slice a5 m.body.length c5) 5 1 m.body.length (bv m.body)) (hS.sub (L' := [osl (.slice a5 m.body.length c5) 5 1 m.body.length (bv m.body), rrA 143 [] br a3 c3 orr, codR bc br e2]) subZ) rfl⟩
      exact fun e => (ownsRow_some (hS.holds (osl (.slice a5 m.body.length c5) 5 1 m.body.length (bv m.body)) memZ) e).2
    · rw [if_pos ho1] at hr1
      subst hr1
      repeat'(first|refine kv' ?_|apply jJ|refine jE' ?_|refine jp' ?_|(apply jc;kernel_rfl)|refine kg' ?_|refine kG' ?_|refine kB' fun _=>?_|refine kA' fun _=>?_|refine kK' fun _=>?_|refine kU' ?_|((first|refine kR' ?_ ?_|refine kQ' ?_ ?_);all_goals(intro hc;try simp only[hcs]at hc;try(exfalso;first|contradiction|omega))))
      (apply ret1c; (· exact rfl); (· exact inferInstance); (· exact rfl); (· (repeat (first | exact List.Mem.head _ | apply List.Mem.tail))); (· exact rfl); intro w' hS)
      exact ⟨none, 0, a3, c3, rfl, fun _ => rfl, fin2 (s' := (orr, oe)) ((hS.sub (L' := [rrA 143 [] br a3 c3 orr, codR bc br oe]) subZ).nilsl 5 1) rfl⟩
  · rw [if_pos he] at hr1
    subst hr1
    repeat'(first|refine kv' ?_|apply jJ|refine jE' ?_|refine jp' ?_|(apply jc;kernel_rfl)|refine kg' ?_|refine kG' ?_|refine kB' fun _=>?_|refine kA' fun _=>?_|refine kK' fun _=>?_|refine kU' ?_|(apply LR.call; (· exact rfl); (intro w1 h1; first | (refine CallsTo.mono (show CallsTo Tryz.prog 62 [.pointer (some ⟨bc, 0, none⟩)] w1 _ from e62 bc br _ _ _ w1 (h1.holds (rD bc br _ _ _) memZ) (by repeat (first | exact hok | apply okS_gT))) ?_; rintro v w2 ⟨a2, c2, rfl, st⟩; refine LR.back (St.did h1 selZ rfl st (rD_dep _ _ _ _ _)) ?_; clear st h1) | (refine CallsTo.mono (show CallsTo Tryz.prog 66 [.pointer (some ⟨bc, 0, none⟩)] w1 _ from e66 bc br _ _ _ w1 (h1.holds (rD bc br _ _ _) memZ) (by repeat (first | exact hok | apply okS_gT))) ?_; rintro v w2 ⟨a2, c2, rfl, st⟩; refine LR.back (St.did h1 selZ rfl st (rD_dep _ _ _ _ _)) ?_; clear st h1)))|(apply LR.ev; (· first | (apply Ev.load (v := .int .i64 e); (· exact rfl); (· exact fun w' hw' => by have h9 := rD_e (hw'.holds (rD bc br _ _ _) memZ); rw [hu] at h9; exact h9)) | (apply Ev.load (v := .pointer (some ⟨br, 0, none⟩)); (· exact rfl); (· exact fun w' hw' => rD_r (hw'.holds (rD bc br _ _ _) memZ)))); (· exact rfl))|((first|refine kR' ?_ ?_|refine kQ' ?_ ?_);all_goals(intro hc;try simp only[hcs]at hc;try(exfalso;first|contradiction|omega))))
    (apply ret1c; (· exact rfl); (· exact inferInstance); (· exact rfl); (· (repeat (first | exact List.Mem.head _ | apply List.Mem.tail))); (· exact rfl); intro w' hS)
    rw [hu] at hS
    exact ⟨none, 0, _, _, rfl, fun _ => rfl, fin_ ((hS.sub (L' := [rD bc br _ _ (l, e)]) subZ).nilsl 5 1) rfl⟩
end Go.Proofs.YtkolmkdbjagfcaaGreat

namespace Go.Proofs.YtkolmkdbjagfcaaGreat
open Go.Hb
attribute [local irreducible] LR CW At Ev thn blk finK noG again CallsTo DW QL dnext TW DP
set_option maxRecDepth 100000

theorem rdL_stick {α : Type} {f : RS → α × RS} (hf : ∀ s, s.2 ≠ 0 → (f s).2 = s) {s : RS} {i : Nat} : ∀ {k : Nat}, i ≤ k → (rdL f i s).2.2 ≠ 0 → (rdL f k s).2 = (rdL f i s).2
  | 0, h, _ => by rw [show i = 0 by omega]
  | k + 1, h, he => by
    by_cases hk : i = k + 1
    · subst hk; rfl
    · have ih := rdL_stick hf (k := k) (by omega) he
      show (f (rdL f k s).2).2 = _
      rw [ih, hf _ he]
theorem getS_stick (s : RS) (h : s.2 ≠ 0) : (getS s).2 = s := by rw [getS_err h]
theorem getE_stick (s : RS) (h : s.2 ≠ 0) : (getE s).2 = s := by
  unfold getE
  simp only [getS_err h]
theorem okS_rdL {α : Type} {f : RS → α × RS} (hf : ∀ s, okS s → okS (f s).2) : ∀ (k : Nat) (s : RS), okS s → okS (rdL f k s).2
  | 0, _, h => h
  | k + 1, s, h => hf _ (okS_rdL hf k s h)
def tokV (u : RS) : Tkn := { zTkn with r1 := gV u, r2 := gV (gT u), hop := gV (gT (gT u)), seq := gV (gT (gT (gT u))), aru := gV (gT (gT (gT (gT u)))), low := gV (gT (gT (gT (gT (gT u))))), stamp := gV (gT (gT (gT (gT (gT (gT u)))))), idle := gV (gT (gT (gT (gT (gT (gT (gT u))))))), ask := (lstR getS 16 (gT (gT (gT (gT (gT (gT (gT (gT u))))))))).1 }
def tokT (u : RS) : RS := (lstR getS 16 (gT (gT (gT (gT (gT (gT (gT (gT u))))))))).2
structure Lst2 where
  i : Nat
  a : Option Addr
  c : Nat
  ta : Option Addr
  tc : Nat
set_option maxHeartbeats 32000000 in
theorem e64 (bc br : Nat) (a : Option Addr) (c : Nat) (s : RS) (w : World) (h : (rD bc br a c s).holds w) (hok : okS s) :
    CallsTo Tryz.prog 64 [.pointer (some ⟨bc, 0, none⟩)] w fun v w' => ∃ t ta tc a' c', v = Tkn.val t ta tc ∧ (ta = none → tc = 0) ∧ ((tokT s).2 = 0 → t = tokV s) ∧
      Step (rD bc br a c s) (both (rD bc br a' c' (tokT s)) (osl (.slice ta t.ask.length tc) 3 1 t.ask.length (iv t.ask))) w w' := by
  have hS0 := St.one h (both_live h) (rD_dep _ _ _ _ _)
  generalize hF : (rD bc br a c s).foot = F at hS0
  have h8 : okS (gT (gT (gT (gT (gT (gT (gT (gT s)))))))) := by repeat (first | exact hok | apply okS_gT)
  have hmo := okS_many (most := 16) h8
  have hnb := gV_bd (gT (gT (gT (gT (gT (gT (gT (gT s))))))))
  have hlm := lstR_many getS 16 (gT (gT (gT (gT (gT (gT (gT (gT s))))))))
  obtain ⟨n, hn⟩ : ∃ n : Nat, gV (gT (gT (gT (gT (gT (gT (gT (gT s)))))))) = n := ⟨(gV (gT (gT (gT (gT (gT (gT (gT (gT s))))))))).toNat, by omega⟩
  obtain ⟨s1, hs1⟩ : ∃ s1, manyS 16 (gT (gT (gT (gT (gT (gT (gT (gT s)))))))) = s1 := ⟨_, rfl⟩
  obtain ⟨k0, hk0⟩ : ∃ k0 : Nat, (if s1.2 ≠ 0 then 0 else n) = k0 := ⟨_, rfl⟩
  have hlm2 : lstR getS 16 (gT (gT (gT (gT (gT (gT (gT (gT s)))))))) = rdL getS k0 s1 := by rw [hlm, hs1, hn, ← hk0]; rfl
  have hk9 : s1.2 = 0 → n ≤ 16 := fun hz => by
    have h9 := hs1
    unfold manyS at h9
    split at h9
    · rw [← h9] at hz; cases hz
    · rename_i hq
      rw [← h9] at hz
      have : ¬ 16 < gV (gT (gT (gT (gT (gT (gT (gT (gT s)))))))) := fun hh => hq ⟨hz, hh⟩
      omega
  have hkm : k0 ≤ 16 := by
    rw [← hk0]
    split
    · omega
    · rename_i hz
      exact hk9 (by omega)
  have htT : tokT s = (rdL getS k0 s1).2 := by unfold tokT; rw [hlm2]
  have htV : tokV s = ⟨gV s, gV (gT s), gV (gT (gT s)), gV (gT (gT (gT s))), gV (gT (gT (gT (gT s)))), gV (gT (gT (gT (gT (gT s))))), gV (gT (gT (gT (gT (gT (gT s)))))), gV (gT (gT (gT (gT (gT (gT (gT s))))))), (rdL getS k0 s1).1⟩ := by unfold tokV; rw [hlm2]; try rfl
  rw [hs1] at hmo
  rw [htT, htV]
  clear htT htV hlm hlm2
  refine go_in (n := 49) hS0 Tryz.func64 rfl rfl ?_
  repeat'(first|(apply kA (d := 3);exact rfl;intro bt)|(apply kA (d := 2);exact rfl;intro b2)|refine kv' ?_|apply jJ|refine jE' ?_|refine jp' ?_|(apply jc;kernel_rfl)|refine kg' ?_|refine kG' ?_|refine kB' fun _=>?_|refine kA' fun _=>?_|refine kK' fun _=>?_|refine kU' ?_|(apply LR.call; (· exact rfl); (intro w1 h1; first | (refine CallsTo.mono (show CallsTo Tryz.prog 62 [.pointer (some ⟨bc, 0, none⟩)] w1 _ from e62 bc br _ _ _ w1 (h1.holds (rD bc br _ _ _) memZ) (by repeat (first | exact hok | apply okS_gT))) ?_; rintro v w2 ⟨a2, c2, rfl, st⟩; refine LR.back (St.did h1 selZ rfl st (rD_dep _ _ _ _ _)) ?_; clear st h1) | (refine CallsTo.mono (show CallsTo Tryz.prog 66 [.pointer (some ⟨bc, 0, none⟩)] w1 _ from e66 bc br _ _ _ w1 (h1.holds (rD bc br _ _ _) memZ) (by repeat (first | exact hok | apply okS_gT))) ?_; rintro v w2 ⟨a2, c2, rfl, st⟩; refine LR.back (St.did h1 selZ rfl st (rD_dep _ _ _ _ _)) ?_; clear st h1) | (refine CallsTo.mono (show CallsTo Tryz.prog 103 [.pointer (some ⟨bc, 0, none⟩), .int .i64 16] w1 _ from e103 bc br _ _ _ 16 w1 (h1.holds (rD bc br _ _ _) memZ) (by repeat (first | exact hok | apply okS_gT))) ?_; rintro v w2 ⟨a9, c9, rfl, st⟩; refine LR.back (St.did h1 selZ rfl st (rD_dep _ _ _ _ _)) ?_; clear st h1)))|((first|refine kR' ?_ ?_|refine kQ' ?_ ?_);all_goals(intro hc;try simp only[hcs]at hc;try(exfalso;first|contradiction|omega))))
  rw [hs1, hn]
  apply CW.loop [5, 29, 30, 31, 32, 33, 34, 35, 36, 37, 38, 39, 40, 41, 42, 43, 44, 45, 46, 47] (fun st : Lst2 => st.i ≤ k0) (fun st => [(5, Value.int .i64 (st.i : Int))])
    (fun st => St w F [.own bt (.cells ([.int .i64 (gV s), .int .i64 (gV (gT s)), .int .i64 (gV (gT (gT s))), .int .i64 (gV (gT (gT (gT s)))), .int .i64 (gV (gT (gT (gT (gT s))))), .int .i64 (gV (gT (gT (gT (gT (gT s)))))), .int .i64 (gV (gT (gT (gT (gT (gT (gT s))))))), .int .i64 (gV (gT (gT (gT (gT (gT (gT (gT s)))))))), .slice st.ta st.i st.tc] : List Value).toArray 33 (0, 0)), .own b2 (.cells ([.int .i64 0, .int .i64 0, .int .i64 0, .int .i64 0, .int .i64 0, .int .i64 0, .int .i64 0, .int .i64 0, .slice none 0 0] : List Value).toArray 33 (0, 0)), rD bc br st.a st.c (rdL getS st.i s1).2, osl (.slice st.ta st.i st.tc) 3 1 st.i (iv (rdL getS st.i s1).1)]) (fun st => k0 - st.i)
  · exact fun w' hw' => ⟨⟨0, a9, c9, none, 0⟩, Nat.zero_le _, ⟨rfl, trivial⟩, front (front (front (front (hw'.nilsl 3 1) 3 rfl rfl) 3 rfl rfl) 3 rfl rfl) 0 rfl rfl⟩
  rintro ⟨i, a3, c3, ta, tc⟩ g1 hi
  simp only at hi ⊢
  have hoi : okS (rdL getS i s1).2 := okS_rdL (fun s h => okS_gT h) i s1 hmo
  have hsu : rdL getS (i + 1) s1 = ((rdL getS i s1).1 ++ [(getS (rdL getS i s1).2).1], (getS (rdL getS i s1).2).2) := rfl
  have hli := rdL_len getS i s1
  have hstk : (rdL getS i s1).2.2 ≠ 0 → (rdL getS k0 s1).2 = (rdL getS i s1).2 := fun he => rdL_stick getS_stick hi he
  have hi0 : i = 0 → (rdL getS i s1).2 = s1 := fun e => by subst e; rfl
  obtain ⟨⟨L, si⟩, hLs⟩ : ∃ r, rdL getS i s1 = r := ⟨_, rfl⟩
  rw [hLs] at hoi hsu hli hstk hi0
  rw [hLs]
  simp only at hoi hsu hli hstk hi0 ⊢
  by_cases hgo : i < n ∧ si.2 = 0
  · obtain ⟨hin, hz⟩ := hgo
    have hik : i < k0 := by
      rw [← hk0]
      split
      · rename_i hne
        exfalso
        have : k0 = 0 := by rw [← hk0, if_pos hne]
        have h2 := hi0 (by omega)
        rw [← h2] at hne
        exact hne hz
      · exact hin
    repeat'(first|(apply CW.reg_sink 7 (St w F [.own bt (.cells ([.int .i64 (gV s), .int .i64 (gV (gT s)), .int .i64 (gV (gT (gT s))), .int .i64 (gV (gT (gT (gT s)))), .int .i64 (gV (gT (gT (gT (gT s))))), .int .i64 (gV (gT (gT (gT (gT (gT s)))))), .int .i64 (gV (gT (gT (gT (gT (gT (gT s))))))), .int .i64 (gV (gT (gT (gT (gT (gT (gT (gT s)))))))), .slice ta i tc] : List Value).toArray 33 (0, 0))]); (· exact rfl); (· decide +kernel))|refine kv' ?_|apply jJ|refine jE' ?_|refine jp' ?_|(apply jc;kernel_rfl)|refine kg' ?_|refine kG' ?_|refine kB' fun _=>?_|refine kA' fun _=>?_|refine kK' fun _=>?_|refine kU' ?_|(apply LR.ev; (· apply Ev.load (v := .int .i64 si.2); (· exact rfl); (· exact fun w' hw' => rD_e (hw'.holds (rD bc br a3 c3 si) memZ))); (· exact rfl))|((first|refine kR' ?_ ?_|refine kQ' ?_ ?_);all_goals(intro hc;try simp only[hcs]at hc;try(exfalso;first|contradiction|omega))))
    all_goals (
      apply DW.quiet [0, 1, 2]
      · decide +kernel
      · first | exact fun _ h => h | exact fun _ h => St.sub h subZ
      repeat'(first|refine yv' ?_|refine uv' ?_|refine un' ?_|(refine us' ?_ ?_;all_goals(intro hc;try simp only[hcs]at hc;try(exfalso;first|contradiction|omega)))|apply QL.nil)
      all_goals (show DW _ _ _ _ _ _ _ _))
    all_goals (
      apply DW.loud 3
      · exact rfl
      · decide +kernel
      repeat'(first|(apply Go.Hb.kK;(iterate 4 exact rfl);intro bs)|refine kg' ?_|refine kG' ?_|apply kM|refine kv' ?_|refine kK' fun _=>?_|refine kU' ?_|refine kB' fun _=>?_|refine kA' fun _=>?_|(apply LR.call; (· exact rfl); (intro w1 h1; refine CallsTo.mono (show CallsTo Tryz.prog 62 [.pointer (some ⟨bc, 0, none⟩)] w1 _ from e62 bc br a3 c3 si w1 (h1.holds (rD bc br a3 c3 si) memZ) hoi) ?_; rintro v w2 ⟨a4, c4, rfl, st⟩; refine LR.back (St.did h1 selZ rfl st (rD_dep _ _ _ _ _)) ?_; clear st h1))|(apply LR.append (xs := iv L) (news := [Value.int .i64 (gV si)]) (m := 1); (· exact rfl); (· exact rfl); (· intro a' c'; (repeat (first | exact sH _ _ _ | apply sT))); (· exact fun w' hw' => hw'.rd_of_blk (mH _ _)); (· exact fun hx => by cases hx); (· exact rfl); (· exact rfl); (· omega); (· unfold maxLen; omega); (· exact rfl); (intro a5 c5)))
      all_goals (refine At.stage_same (fun _ h => St.sub h subZ) ?_))
    all_goals (
      apply DW.loud 4
      · exact rfl
      · decide +kernel
      repeat'(first|(apply Go.Hb.kK;(iterate 4 exact rfl);intro bs)|refine kg' ?_|refine kG' ?_|apply kM|refine kv' ?_|refine kK' fun _=>?_|refine kU' ?_|refine kB' fun _=>?_|refine kA' fun _=>?_|(apply LR.call; (· exact rfl); (intro w1 h1; refine CallsTo.mono (show CallsTo Tryz.prog 62 [.pointer (some ⟨bc, 0, none⟩)] w1 _ from e62 bc br a3 c3 si w1 (h1.holds (rD bc br a3 c3 si) memZ) hoi) ?_; rintro v w2 ⟨a4, c4, rfl, st⟩; refine LR.back (St.did h1 selZ rfl st (rD_dep _ _ _ _ _)) ?_; clear st h1))|(apply LR.append (xs := iv L) (news := [Value.int .i64 (gV si)]) (m := 1); (· exact rfl); (· exact rfl); (· intro a' c'; (repeat (first | exact sH _ _ _ | apply sT))); (· exact fun w' hw' => hw'.rd_of_blk (mH _ _)); (· exact fun hx => by cases hx); (· exact rfl); (· exact rfl); (· omega); (· unfold maxLen; omega); (· exact rfl); (intro a5 c5)))
      all_goals (refine At.stage_same (fun _ h => St.sub h subZ) ?_))
    all_goals (
      apply DW.loud 5
      · exact rfl
      · decide +kernel
      repeat'(first|(apply Go.Hb.kK;(iterate 4 exact rfl);intro bs)|refine kg' ?_|refine kG' ?_|apply kM|refine kv' ?_|refine kK' fun _=>?_|refine kU' ?_|refine kB' fun _=>?_|refine kA' fun _=>?_|(apply LR.call; (· exact rfl); (intro w1 h1; refine CallsTo.mono (show CallsTo Tryz.prog 62 [.pointer (some ⟨bc, 0, none⟩)] w1 _ from e62 bc br a3 c3 si w1 (h1.holds (rD bc br a3 c3 si) memZ) hoi) ?_; rintro v w2 ⟨a4, c4, rfl, st⟩; refine LR.back (St.did h1 selZ rfl st (rD_dep _ _ _ _ _)) ?_; clear st h1))|(apply LR.append (xs := iv L) (news := [Value.int .i64 (gV si)]) (m := 1); (· exact rfl); (· exact rfl); (· intro a' c'; (repeat (first | exact sH _ _ _ | apply sT))); (· exact fun w' hw' => hw'.rd_of_blk (mH _ _)); (· exact fun hx => by cases hx); (· exact rfl); (· exact rfl); (· omega); (· unfold maxLen; omega); (· exact rfl); (intro a5 c5)))
      all_goals (refine At.stage_same (fun _ h => St.sub h subZ) ?_))
    all_goals (
      apply DW.quiet [6]
      · decide +kernel
      · first | exact fun _ h => h | exact fun _ h => St.sub h subZ
      repeat'(first|refine yv' ?_|refine uv' ?_|refine un' ?_|(refine us' ?_ ?_;all_goals(intro hc;try simp only[hcs]at hc;try(exfalso;first|contradiction|omega)))|apply QL.nil)
      all_goals (show DW _ _ _ _ _ _ _ _))
    all_goals (apply DW.done; (· decide +kernel))
    all_goals apply At.sink
    repeat'(first|refine kv' ?_|apply jJ|refine jE' ?_|refine jp' ?_|(apply jc;kernel_rfl)|refine kg' ?_|refine kG' ?_|refine kB' fun _=>?_|refine kA' fun _=>?_|refine kK' fun _=>?_|refine kU' ?_|(apply addX;(iterate 2 exact rfl);(iterate 2(first|omega|(dsimp only;omega)));exact rfl)|((first|refine kR' ?_ ?_|refine kQ' ?_ ?_);all_goals(intro hc;try simp only[hcs]at hc;try(exfalso;first|contradiction|omega))))
    have hsuc : rdL getS (i + 1) s1 = (L ++ [gV si], gT si) := hsu
    have hsn : iv (L ++ [gV si]) = iv L ++ [Value.int .i64 (gV si)] := by simp [iv]
    refine At.again (⟨i + 1, a4, c4, a5, c5⟩ : Lst2) (by show i + 1 ≤ k0; omega) ?_ ⟨rfl, trivial⟩ ?_ (by show k0 - (i + 1) < k0 - i; omega)
    · (repeat (first | exact Out.refl _ _ | exact Out.mix | (apply Out.upd; (· exact rfl)) | (apply Out.updL; (· exact rfl)) | (apply Out.mixs; (· exact rfl))))
    · intro w' hw'
      simp only
      rw [hsuc]
      simp only
      rw [hsn]
      exact hw'.sub subZ
  · repeat'(first|refine kv' ?_|apply jJ|refine jE' ?_|refine jp' ?_|(apply jc;kernel_rfl)|refine kg' ?_|refine kG' ?_|refine kB' fun _=>?_|refine kA' fun _=>?_|refine kK' fun _=>?_|refine kU' ?_|(apply LR.ev; (· apply Ev.load (v := .int .i64 si.2); (· exact rfl); (· exact fun w' hw' => rD_e (hw'.holds (rD bc br a3 c3 si) memZ))); (· exact rfl))|((first|refine kR' ?_ ?_|refine kQ' ?_ ?_);all_goals(intro hc;try simp only[hcs]at hc;try(exfalso;first|contradiction|omega))))
    all_goals (try (exfalso; exact hgo ⟨by omega, by assumption⟩))
    all_goals (
      (apply ret1c; (· exact rfl); (· exact inferInstance); (· exact rfl); (· (repeat (first | exact List.Mem.head _ | apply List.Mem.tail))); (· exact rfl); intro w' hS)
      have hst : (rdL getS k0 s1).2 = si := by
        by_cases hz : si.2 = 0
        · have hin : ¬ i < n := fun h => hgo ⟨h, hz⟩
          have : i = k0 := by rw [← hk0] at hi ⊢; split at hi <;> rename_i h7 <;> (first | rw [if_pos h7] | rw [if_neg h7]) <;> omega
          rw [← this, hLs]
        · exact hstk hz
      have hls : si.2 = 0 → (rdL getS k0 s1).1 = L := fun hz => by
        have hin : ¬ i < n := fun h => hgo ⟨h, hz⟩
        have : i = k0 := by rw [← hk0] at hi ⊢; split at hi <;> rename_i h7 <;> (first | rw [if_pos h7] | rw [if_neg h7]) <;> omega
        rw [← this, hLs]
      have hown := hS.holds (osl (.slice ta i tc) 3 1 i (iv L)) memZ
      subst hli
      rw [hst]
      refine ⟨⟨gV s, gV (gT s), gV (gT (gT s)), gV (gT (gT (gT s))), gV (gT (gT (gT (gT s)))), gV (gT (gT (gT (gT (gT s))))), gV (gT (gT (gT (gT (gT (gT s)))))), gV (gT (gT (gT (gT (gT (gT (gT s))))))), L⟩, ta, tc, a3, c3, rfl, fun e => (ownsRow_some hown e).2, fun hz => by rw [hls hz], ?_⟩
      subst hF
      exact (St.join (hS.sub (L' := [rD bc br a3 c3 si, osl (.slice ta L.length tc) 3 1 L.length (iv L)]) subZ) rfl rfl).step rfl)
def comV (u : RS) : Cmt := { zCmt with r1 := gV u, r2 := gV (gT u), mem := gV (gT (gT u)), hop := gV (gT (gT (gT u))), ents := (lstR getE 8 (gT (gT (gT (gT u))))).1 }
def comT (u : RS) : RS := (lstR getE 8 (gT (gT (gT (gT u))))).2
theorem okS_getE {s : RS} (h : okS s) : okS (getE s).2 := okS_gT (okS_gT (okS_gT (okS_gT (okS_gT (okS_gT h)))))
set_option maxHeartbeats 32000000 in
theorem e65 (bc br : Nat) (a : Option Addr) (c : Nat) (s : RS) (w : World) (h : (rD bc br a c s).holds w) (hok : okS s) :
    CallsTo Tryz.prog 65 [.pointer (some ⟨bc, 0, none⟩)] w fun v w' => ∃ t ta tc a' c', v = Cmt.val t ta tc ∧ (ta = none → tc = 0) ∧ ((comT s).2 = 0 → t = comV s) ∧
      Step (rD bc br a c s) (both (rD bc br a' c' (comT s)) (osl (.slice ta t.ents.length tc) 77 6 t.ents.length (t.ents.flatMap Ent.cells))) w w' := by
  have hS0 := St.one h (both_live h) (rD_dep _ _ _ _ _)
  generalize hF : (rD bc br a c s).foot = F at hS0
  have h8 : okS (gT (gT (gT (gT s)))) := by repeat (first | exact hok | apply okS_gT)
  have hmo := okS_many (most := 8) h8
  have hnb := gV_bd (gT (gT (gT (gT s))))
  have hlm := lstR_many getE 8 (gT (gT (gT (gT s))))
  obtain ⟨n, hn⟩ : ∃ n : Nat, gV (gT (gT (gT (gT s)))) = n := ⟨(gV (gT (gT (gT (gT s))))).toNat, by omega⟩
  obtain ⟨s1, hs1⟩ : ∃ s1, manyS 8 (gT (gT (gT (gT s)))) = s1 := ⟨_, rfl⟩
  obtain ⟨k0, hk0⟩ : ∃ k0 : Nat, (if s1.2 ≠ 0 then 0 else n) = k0 := ⟨_, rfl⟩
  have hlm2 : lstR getE 8 (gT (gT (gT (gT s)))) = rdL getE k0 s1 := by rw [hlm, hs1, hn, ← hk0]; rfl
  have hk9 : s1.2 = 0 → n ≤ 8 := fun hz => by
    have h9 := hs1
    unfold manyS at h9
    split at h9
    · rw [← h9] at hz; cases hz
    · rename_i hq
      rw [← h9] at hz
      have : ¬ 8 < gV (gT (gT (gT (gT s)))) := fun hh => hq ⟨hz, hh⟩
      omega
  have hkm : k0 ≤ 8 := by
    rw [← hk0]
    split
    · omega
    · rename_i hz
      exact hk9 (by omega)
  have htT : comT s = (rdL getE k0 s1).2 := by unfold comT; rw [hlm2]
  have htV : comV s = ⟨gV s, gV (gT s), gV (gT (gT s)), gV (gT (gT (gT s))), (rdL getE k0 s1).1⟩ := by unfold comV; rw [hlm2]; try rfl
  rw [hs1] at hmo
  rw [htT, htV]
  clear htT htV hlm hlm2
  refine go_in (n := 52) hS0 Tryz.func65 rfl rfl ?_
  repeat'(first|(apply kA (d := 3);exact rfl;intro bt)|(apply kA (d := 2);exact rfl;intro b2)|refine kv' ?_|apply jJ|refine jE' ?_|refine jp' ?_|(apply jc;kernel_rfl)|refine kg' ?_|refine kG' ?_|refine kB' fun _=>?_|refine kA' fun _=>?_|refine kK' fun _=>?_|refine kU' ?_|(apply LR.call; (· exact rfl); (intro w1 h1; first | (refine CallsTo.mono (show CallsTo Tryz.prog 62 [.pointer (some ⟨bc, 0, none⟩)] w1 _ from e62 bc br _ _ _ w1 (h1.holds (rD bc br _ _ _) memZ) (by repeat (first | exact hok | apply okS_gT))) ?_; rintro v w2 ⟨a2, c2, rfl, st⟩; refine LR.back (St.did h1 selZ rfl st (rD_dep _ _ _ _ _)) ?_; clear st h1) | (refine CallsTo.mono (show CallsTo Tryz.prog 66 [.pointer (some ⟨bc, 0, none⟩)] w1 _ from e66 bc br _ _ _ w1 (h1.holds (rD bc br _ _ _) memZ) (by repeat (first | exact hok | apply okS_gT))) ?_; rintro v w2 ⟨a2, c2, rfl, st⟩; refine LR.back (St.did h1 selZ rfl st (rD_dep _ _ _ _ _)) ?_; clear st h1) | (refine CallsTo.mono (show CallsTo Tryz.prog 103 [.pointer (some ⟨bc, 0, none⟩), .int .i64 8] w1 _ from e103 bc br _ _ _ 8 w1 (h1.holds (rD bc br _ _ _) memZ) (by repeat (first | exact hok | apply okS_gT))) ?_; rintro v w2 ⟨a9, c9, rfl, st⟩; refine LR.back (St.did h1 selZ rfl st (rD_dep _ _ _ _ _)) ?_; clear st h1)))|((first|refine kR' ?_ ?_|refine kQ' ?_ ?_);all_goals(intro hc;try simp only[hcs]at hc;try(exfalso;first|contradiction|omega))))
  rw [hs1, hn]
  apply CW.loop [5, 6, 18, 19, 20, 21, 22, 23, 24, 25, 26, 27, 28, 29, 30, 31, 32, 33, 34, 35, 36, 37, 38, 39, 40, 41, 42, 43, 44, 45, 46, 47, 48, 49, 50] (fun st : Lst2 => st.i ≤ k0) (fun st => [(5, Value.int .i64 (st.i : Int))])
    (fun st => St w F [.own bt (.cells ([.int .i64 (gV s), .int .i64 (gV (gT s)), .int .i64 (gV (gT (gT s))), .int .i64 (gV (gT (gT (gT s)))), .slice st.ta st.i st.tc] : List Value).toArray 38 (0, 0)), .own b2 (.cells ([.int .i64 0, .int .i64 0, .int .i64 0, .int .i64 0, .slice none 0 0] : List Value).toArray 38 (0, 0)), rD bc br st.a st.c (rdL getE st.i s1).2, osl (.slice st.ta st.i st.tc) 77 6 st.i ((rdL getE st.i s1).1.flatMap Ent.cells)]) (fun st => k0 - st.i)
  · exact fun w' hw' => ⟨⟨0, a9, c9, none, 0⟩, Nat.zero_le _, ⟨rfl, trivial⟩, front (front (front (front (hw'.nilsl 77 6) 3 rfl rfl) 3 rfl rfl) 3 rfl rfl) 0 rfl rfl⟩
  rintro ⟨i, a3, c3, ta, tc⟩ g1 hi
  simp only at hi ⊢
  have hoi : okS (rdL getE i s1).2 := okS_rdL (fun s h => okS_getE h) i s1 hmo
  have hsu : rdL getE (i + 1) s1 = ((rdL getE i s1).1 ++ [(getE (rdL getE i s1).2).1], (getE (rdL getE i s1).2).2) := rfl
  have hli := rdL_len getE i s1
  have hstk : (rdL getE i s1).2.2 ≠ 0 → (rdL getE k0 s1).2 = (rdL getE i s1).2 := fun he => rdL_stick getE_stick hi he
  have hi0 : i = 0 → (rdL getE i s1).2 = s1 := fun e => by subst e; rfl
  obtain ⟨⟨L, si⟩, hLs⟩ : ∃ r, rdL getE i s1 = r := ⟨_, rfl⟩
  rw [hLs] at hoi hsu hli hstk hi0
  rw [hLs]
  simp only at hoi hsu hli hstk hi0 ⊢
  by_cases hgo : i < n ∧ si.2 = 0
  · obtain ⟨hin, hz⟩ := hgo
    have hik : i < k0 := by
      rw [← hk0]
      split
      · rename_i hne
        exfalso
        have : k0 = 0 := by rw [← hk0, if_pos hne]
        have h2 := hi0 (by omega)
        rw [← h2] at hne
        exact hne hz
      · exact hin
    repeat'(first|refine kv' ?_|apply jJ|refine jE' ?_|refine jp' ?_|(apply jc;kernel_rfl)|refine kg' ?_|refine kG' ?_|refine kB' fun _=>?_|refine kA' fun _=>?_|refine kK' fun _=>?_|refine kU' ?_|(apply LR.ev; (· apply Ev.load (v := .int .i64 si.2); (· exact rfl); (· exact fun w' hw' => rD_e (hw'.holds (rD bc br a3 c3 si) memZ))); (· exact rfl))|((first|refine kR' ?_ ?_|refine kQ' ?_ ?_);all_goals(intro hc;try simp only[hcs]at hc;try(exfalso;first|contradiction|omega))))
    have hE : getE si = (⟨gV si, gV (gT si), gV (gT (gT si)), gV (gT (gT (gT si))), gV (gT (gT (gT (gT si)))), gV (gT (gT (gT (gT (gT si)))))⟩, gT (gT (gT (gT (gT (gT si)))))) := rfl
    rw [hE] at hsu
    simp only at hsu
    obtain ⟨e, he⟩ : ∃ e : Ent, (⟨gV si, gV (gT si), gV (gT (gT si)), gV (gT (gT (gT si))), gV (gT (gT (gT (gT si)))), gV (gT (gT (gT (gT (gT si)))))⟩ : Ent) = e := ⟨_, rfl⟩
    have hsuc : rdL getE (i + 1) s1 = (L ++ [e], gT (gT (gT (gT (gT (gT si)))))) := by rw [← he]; exact hsu
    have hsn : (L ++ [e]).flatMap Ent.cells = L.flatMap Ent.cells ++ [Value.int .i64 (gV si), .int .i64 (gV (gT si)), .int .i64 (gV (gT (gT si))), .int .i64 (gV (gT (gT (gT si)))), .int .i64 (gV (gT (gT (gT (gT si))))), .int .i64 (gV (gT (gT (gT (gT (gT si))))))] := by rw [List.flatMap_append, ← he]; simp [Ent.cells]
    repeat'(first|(apply kA;exact rfl;intro bn)|(apply Go.Hb.kK;(iterate 4 exact rfl);intro bs)|refine kv' ?_|apply jJ|refine jE' ?_|refine jp' ?_|(apply jc;kernel_rfl)|refine kg' ?_|refine kG' ?_|refine kB' fun _=>?_|refine kA' fun _=>?_|refine kK' fun _=>?_|refine kU' ?_|(apply addX;(iterate 2 exact rfl);(iterate 2(first|omega|(dsimp only;omega)));exact rfl)|(apply LR.call; (· exact rfl); (intro w1 h1; first | (refine CallsTo.mono (show CallsTo Tryz.prog 62 [.pointer (some ⟨bc, 0, none⟩)] w1 _ from e62 bc br _ _ _ w1 (h1.holds (rD bc br _ _ _) memZ) (by repeat (first | exact hoi | apply okS_gT))) ?_; rintro v w2 ⟨a2, c2, rfl, st⟩; refine LR.back (St.did h1 selZ rfl st (rD_dep _ _ _ _ _)) ?_; clear st h1) | (refine CallsTo.mono (show CallsTo Tryz.prog 66 [.pointer (some ⟨bc, 0, none⟩)] w1 _ from e66 bc br _ _ _ w1 (h1.holds (rD bc br _ _ _) memZ) (by repeat (first | exact hoi | apply okS_gT))) ?_; rintro v w2 ⟨a2, c2, rfl, st⟩; refine LR.back (St.did h1 selZ rfl st (rD_dep _ _ _ _ _)) ?_; clear st h1)))|(apply LR.append (xs := L.flatMap Ent.cells) (news := [Value.int .i64 (gV si), .int .i64 (gV (gT si)), .int .i64 (gV (gT (gT si))), .int .i64 (gV (gT (gT (gT si)))), .int .i64 (gV (gT (gT (gT (gT si))))), .int .i64 (gV (gT (gT (gT (gT (gT si))))))]) (m := 1); (· exact rfl); (· exact rfl); (· intro a' c'; (repeat (first | exact sH _ _ _ | apply sT))); (· exact fun w' hw' => hw'.rd_of_blk (mH _ _)); (· exact fun hx => by cases hx); (· exact rfl); (· exact rfl); (· omega); (· unfold maxLen; omega); (· exact rfl); (intro a5 c5))|((first|refine kR' ?_ ?_|refine kQ' ?_ ?_);all_goals(intro hc;try simp only[hcs]at hc;try(exfalso;first|contradiction|omega))))
    refine At.again (⟨i + 1, a2, c2, a5, c5⟩ : Lst2) (by show i + 1 ≤ k0; omega) ?_ ⟨rfl, trivial⟩ ?_ (by show k0 - (i + 1) < k0 - i; omega)
    · (repeat (first | exact Out.refl _ _ | exact Out.mix | (apply Out.upd; (· exact rfl)) | (apply Out.updL; (· exact rfl)) | (apply Out.mixs; (· exact rfl))))
    · intro w' hw'
      simp only
      rw [hsuc]
      simp only
      rw [hsn]
      exact hw'.sub subZ
  · repeat'(first|refine kv' ?_|apply jJ|refine jE' ?_|refine jp' ?_|(apply jc;kernel_rfl)|refine kg' ?_|refine kG' ?_|refine kB' fun _=>?_|refine kA' fun _=>?_|refine kK' fun _=>?_|refine kU' ?_|(apply LR.ev; (· apply Ev.load (v := .int .i64 si.2); (· exact rfl); (· exact fun w' hw' => rD_e (hw'.holds (rD bc br a3 c3 si) memZ))); (· exact rfl))|((first|refine kR' ?_ ?_|refine kQ' ?_ ?_);all_goals(intro hc;try simp only[hcs]at hc;try(exfalso;first|contradiction|omega))))
    all_goals (try (exfalso; exact hgo ⟨by omega, by assumption⟩))
    all_goals (
      (apply ret1c; (· exact rfl); (· exact inferInstance); (· exact rfl); (· (repeat (first | exact List.Mem.head _ | apply List.Mem.tail))); (· exact rfl); intro w' hS)
      have hst : (rdL getE k0 s1).2 = si := by
        by_cases hz : si.2 = 0
        · have hin : ¬ i < n := fun h => hgo ⟨h, hz⟩
          have : i = k0 := by rw [← hk0] at hi ⊢; split at hi <;> rename_i h7 <;> (first | rw [if_pos h7] | rw [if_neg h7]) <;> omega
          rw [← this, hLs]
        · exact hstk hz
      have hls : si.2 = 0 → (rdL getE k0 s1).1 = L := fun hz => by
        have hin : ¬ i < n := fun h => hgo ⟨h, hz⟩
        have : i = k0 := by rw [← hk0] at hi ⊢; split at hi <;> rename_i h7 <;> (first | rw [if_pos h7] | rw [if_neg h7]) <;> omega
        rw [← this, hLs]
      have hown := hS.holds (osl (.slice ta i tc) 77 6 i (L.flatMap Ent.cells)) memZ
      subst hli
      rw [hst]
      refine ⟨⟨gV s, gV (gT s), gV (gT (gT s)), gV (gT (gT (gT s))), L⟩, ta, tc, a3, c3, rfl, fun e => (ownsRow_some hown e).2, fun hz => by rw [hls hz], ?_⟩
      subst hF
      exact (St.join (hS.sub (L' := [rD bc br a3 c3 si, osl (.slice ta L.length tc) 77 6 L.length (L.flatMap Ent.cells)]) subZ) rfl rfl).step rfl)
end Go.Proofs.YtkolmkdbjagfcaaGreat

namespace Go.Proofs.YtkolmkdbjagfcaaGreat
open Go.Hb
attribute [local irreducible] LR CW At Ev thn blk finK noG again CallsTo DW QL dnext TW DP
set_option maxRecDepth 100000

theorem St.up2 {w0 w : World} {F : Nat → Prop} {R : List Asrt} {x y z : Asrt} (h : St w0 F (x :: y :: z :: R) w) : St w0 F (z :: x :: y :: R) w := h.perm (((List.Perm.swap z y R).cons x).trans (List.Perm.swap z x (y :: R)))
set_option maxHeartbeats 16000000 in
theorem e16 (a : Option Addr) (c : Nat) (l : List Int) (w : World) (hr : Rd w a (bv l)) (hb : Byt l) (hz : a = none → c = 0) (hcap : l.length ≤ c) (hm : l.length ≤ 140737488355000) :
    CallsTo Tryz.prog 16 [.slice a l.length c] w fun v w' => UnpP (unpackP l) v w w' := by
  refine go_in (n := 122) (St.rd1 hr) Tryz.func16 rfl rfl ?_
  obtain ⟨r0, hr0⟩ : ∃ r, unpackP l = r := ⟨_, rfl⟩
  have hr1 := hr0
  rw [hr0]
  unfold unpackP at hr1
  by_cases h5 : 512 < l.length
  · rw [if_pos h5] at hr1
    subst hr1
    repeat'(first|(apply kA;exact rfl;intro b2)|refine kv' ?_|apply jJ|refine jE' ?_|refine jp' ?_|(apply jc;kernel_rfl)|refine kg' ?_|refine kG' ?_|refine kB' fun _=>?_|refine kA' fun _=>?_|refine kK' fun _=>?_|refine kU' ?_|((first|refine kR' ?_ ?_|refine kQ' ?_ ?_);all_goals(intro hc;try simp only[hcs]at hc;try(exfalso;first|contradiction|omega))))
    (apply ret2c; (· exact rfl); (· exact inferInstance); (· exact rfl); (· (repeat (first | exact List.Mem.head _ | apply List.Mem.tail))); (· exact rfl); intro w' hS)
    exact unp_zero 5 hS
  rw [if_neg h5] at hr1
  have hob := open_byt hb
  obtain ⟨⟨ol, oe⟩, hol⟩ : ∃ r, openL l = r := ⟨_, rfl⟩
  rw [hol] at hr1 hob
  simp only at hr1 hob
  by_cases ho : oe ≠ 0
  · rw [if_pos ho] at hr1
    subst hr1
    repeat'(first|(apply kA;exact rfl;intro b2)|refine kv' ?_|apply jJ|refine jE' ?_|refine jp' ?_|(apply jc;kernel_rfl)|refine kg' ?_|refine kG' ?_|refine kB' fun _=>?_|refine kA' fun _=>?_|refine kK' fun _=>?_|refine kU' ?_|(apply LR.call; (· exact rfl); (intro w1 h1; refine (e60 a c l w1 (h1.rd_of (a := a) (xs := bv l) memZ) hb hz hcap hm).mono ?_; rw [hol]; rintro v w2 ⟨a1, c1, hv, hn⟩; replace hv : v = .tuple [.slice a1 ol.length c1, .int .i64 oe].toArray := hv; subst hv; refine LR.back (h1.newSl hn) ?_; clear hn h1))|((first|refine kR' ?_ ?_|refine kQ' ?_ ?_);all_goals(intro hc;try simp only[hcs]at hc;try(exfalso;first|contradiction|omega))))
    (apply ret2c; (· exact rfl); (· exact inferInstance); (· exact rfl); (· (repeat (first | exact List.Mem.head _ | apply List.Mem.tail))); (· exact rfl); intro w' hS)
    exact unp_zero oe hS
  rw [if_neg ho] at hr1
  have ho2 : oe = 0 := by omega
  subst ho2
  have hpf := @parse_facts (ol, 0) hob.1
  obtain ⟨⟨p, l2, e2⟩, hp⟩ : ∃ r, parseP (ol, 0) = r := ⟨_, rfl⟩
  rw [hp] at hr1 hpf
  simp only at hr1 hpf
  obtain ⟨hpb, hpl, hpa, hpe, hpi⟩ := hpf
  have hok : okS (ol, 0) := ⟨hob.1, by have := hob.2; show ol.length ≤ _; omega⟩
  repeat'(first|(apply kA;exact rfl;intro b2)|refine kv' ?_|apply jJ|refine jE' ?_|refine jp' ?_|(apply jc;kernel_rfl)|refine kg' ?_|refine kG' ?_|refine kB' fun _=>?_|refine kA' fun _=>?_|refine kK' fun _=>?_|refine kU' ?_|((first|refine kR' ?_ ?_|refine kQ' ?_ ?_);all_goals(intro hc;try simp only[hcs]at hc;try(exfalso;first|contradiction|omega))))
  apply LR.call
  · exact rfl
  intro w1 h1
  refine (e60 a c l w1 (h1.rd_of (a := a) (xs := bv l) memZ) hb hz hcap hm).mono ?_
  rw [hol]
  rintro v w2 ⟨a1, c1, hv, hn⟩
  replace hv : v = .tuple [.slice a1 ol.length c1, .int .i64 0].toArray := hv
  subst hv
  replace hn : NewSl w1 w2 (.slice a1 ol.length c1) 5 1 ol.length (bv ol) := hn
  refine LR.back (h1.newSl hn) ?_
  clear hn h1
  repeat'(first|(apply kB;(iterate 2 exact rfl);intro bc)|refine kv' ?_|apply jJ|refine jE' ?_|refine jp' ?_|(apply jc;kernel_rfl)|refine kg' ?_|refine kG' ?_|refine kB' fun _=>?_|refine kA' fun _=>?_|refine kK' fun _=>?_|refine kU' ?_|(apply LR.call; (· exact rfl); (intro w1 h1; refine CallsTo.mono (show CallsTo Tryz.prog 61 [.slice a1 ol.length c1] w1 _ from c69 a1 c1 ol w1 (h1.rd_of_own memZ) (fun e => (ownsRow_some (h1.holds (osl (.slice a1 ol.length c1) 5 1 ol.length (bv ol)) memZ) e).2) (by have := hob.2; omega)) ?_; rintro v w2 ⟨br, a3, c3, rfl, hn⟩; refine LR.back (h1.got hn (rrA_dep _ _ _ _ _ _)) ?_; clear hn h1))|((first|refine kR' ?_ ?_|refine kQ' ?_ ?_);all_goals(intro hc;try simp only[hcs]at hc;try(exfalso;first|contradiction|omega))))
  apply LR.call
  · exact rfl
  intro w1 h1
  have h2 : St w NoF [rD bc br a3 c3 (ol, 0), osl (.slice a1 ol.length c1) 5 1 ol.length (bv ol), .own b2 (.cells (zPkt.cells zA).toArray 42 (0, 0)), rdA a (bv l)] w1 := St.join h1 rfl rfl
  refine CallsTo.mono (show CallsTo Tryz.prog 62 [.pointer (some ⟨bc, 0, none⟩)] w1 _ from e62 bc br a3 c3 (ol, 0) w1 (h2.holds _ (mH _ _)) hok) ?_
  rintro v w2 ⟨a4, c4, rfl, st⟩
  have h5 := (St.did h2 (.head _ _ _) rfl st (rD_dep _ _ _ _ _)).part (Asrt.dep_own _ _) (rrA_dep _ _ _ _ _ _)
  refine LR.back h5 ?_
  clear h1 h2 h5 st
  unfold parseP at hp
  have hok1 := okS_gT hok
  have hkb := gV_bd (ol, 0)
  have hke : (gT (ol, 0)).2 ≠ 0 → gV (ol, 0) = 0 := fun h => by
    unfold gT gV getS at *
    rw [if_neg (by simp)] at h ⊢
    simp only at h ⊢
    rw [dec_err h]
    rfl
  obtain ⟨k, hk⟩ : ∃ k, gV (ol, 0) = k := ⟨_, rfl⟩
  obtain ⟨⟨l1, e1⟩, ht1⟩ : ∃ t, gT (ol, 0) = t := ⟨_, rfl⟩
  rw [hk] at hp hkb hke
  rw [ht1] at hp hok1 hke
  rw [hk, ht1]
  simp only at hke hok1 ⊢
  by_cases hbad : e1 = 0 ∧ ¬ (1 ≤ k ∧ k ≤ 5)
  · have hst : startS k (l1, e1) = (l1, 4) := by unfold startS; rw [if_pos hbad]
    obtain ⟨rfl, hkn⟩ := hbad
    rw [hst] at hp
    have g1 : gV (l1, 4) = 0 := gV_err (by simp)
    have g2 : gT (l1, 4) = (l1, 4) := gT_err (by simp)
    rw [g1, g2] at hp
    unfold parseK at hp
    rw [if_neg (by omega), if_neg (by omega), if_neg (by omega), if_neg (by omega), if_neg (by omega)] at hp
    simp only [Prod.mk.injEq] at hp
    obtain ⟨rfl, rfl, rfl⟩ := hp
    rw [if_pos (by simp)] at hr1
    subst hr1
    repeat'(first|(apply kA (d := 7);exact rfl;intro bp)|refine kv' ?_|apply jJ|refine jE' ?_|refine jp' ?_|(apply jc;kernel_rfl)|refine kg' ?_|refine kG' ?_|refine kB' fun _=>?_|refine kA' fun _=>?_|refine kK' fun _=>?_|refine kU' ?_|((first|refine kR' ?_ ?_|refine kQ' ?_ ?_);all_goals(intro hc;try simp only[hcs]at hc;try(exfalso;first|contradiction|omega))))
    all_goals (
      apply LR.call
      · exact rfl
      intro w1 h1
      have h2 := St.join (x := codR bc br 4) (St.up2 (St.up2 h1)) rfl rfl
      refine CallsTo.mono (show CallsTo Tryz.prog 62 [.pointer (some ⟨bc, 0, none⟩)] w1 _ from e62 bc br a4 c4 (l1, 4) w1 (h2.holds (rD bc br a4 c4 (l1, 4)) (mH _ _)) hok1) ?_
      rintro v w2 ⟨a5, c5, rfl, st⟩
      rw [g1, g2] at *
      have h5 := (St.did h2 (.head _ _ _) rfl st (rD_dep _ _ _ _ _)).part (Asrt.dep_own _ _) (rrA_dep _ _ _ _ _ _)
      refine LR.back h5 ?_
      clear h1 h2 h5 st
      repeat'(first|(apply CW.reg_sink 6 (St w NoF [codR bc br 4]); (· exact rfl); (· decide +kernel))|refine kv' ?_|apply jJ|refine jE' ?_|refine jp' ?_|(apply jc;kernel_rfl)|refine kg' ?_|refine kG' ?_|refine kB' fun _=>?_|refine kA' fun _=>?_|refine kK' fun _=>?_|refine kU' ?_|((first|refine kR' ?_ ?_|refine kQ' ?_ ?_);all_goals(intro hc;try simp only[hcs]at hc;try(exfalso;first|contradiction|omega))))
      all_goals
        all_goals (
          apply DW.quiet [0, 1, 2, 3, 4]
          · decide +kernel
          · first | exact fun _ h => h | exact fun _ h => St.sub h subZ
          repeat'(first|refine yv' ?_|refine uv' ?_|refine un' ?_|(refine us' ?_ ?_;all_goals(intro hc;try simp only[hcs]at hc;try(exfalso;first|contradiction|omega)))|apply QL.nil)
          all_goals (show DW _ _ _ _ _ _ _ _))
        all_goals (
          apply DW.loud 5
          · exact rfl
          · decide +kernel
          repeat'(first|refine kg' ?_|refine kG' ?_|apply kM|refine kv' ?_|refine kK' fun _=>?_|refine kU' ?_|refine kB' fun _=>?_|refine kA' fun _=>?_|(apply addX;(iterate 2 exact rfl);(iterate 2(first|omega|(dsimp only;omega)));exact rfl))
          all_goals (refine At.stage_same (fun _ h => St.sub h subZ) ?_))
        all_goals (apply DW.done; (· decide +kernel))
        all_goals apply At.sink
        repeat'(first|refine kv' ?_|apply jJ|refine jE' ?_|refine jp' ?_|(apply jc;kernel_rfl)|refine kg' ?_|refine kG' ?_|refine kB' fun _=>?_|refine kA' fun _=>?_|refine kK' fun _=>?_|refine kU' ?_|((first|refine kR' ?_ ?_|refine kQ' ?_ ?_);all_goals(intro hc;try simp only[hcs]at hc;try(exfalso;first|contradiction|omega))))
        (apply ret2c; (· exact rfl); (· exact inferInstance); (· exact rfl); (· (repeat (first | exact List.Mem.head _ | apply List.Mem.tail))); (· exact rfl); intro w' hS)
        exact unp_zero 4 hS)
  have hst : startS k (l1, e1) = (l1, e1) := by unfold startS; rw [if_neg hbad]
  rw [hst] at hp
  by_cases he1 : e1 = 0
  · subst he1
    have hk15 : 1 ≤ k ∧ k ≤ 5 := by
      by_cases h : 1 ≤ k ∧ k ≤ 5
      · exact h
      · exact absurd ⟨rfl, h⟩ hbad
    have hok2 := okS_gT hok1
    obtain ⟨tt, htt⟩ : ∃ tt, gV (l1, 0) = tt := ⟨_, rfl⟩
    obtain ⟨u, hu⟩ : ∃ u, gT (l1, 0) = u := ⟨_, rfl⟩
    rw [htt, hu] at hp
    rw [hu] at hok2
    unfold parseK at hp
    repeat'(first|(apply kA (d := 7);exact rfl;intro bp)|refine kv' ?_|apply jJ|refine jE' ?_|refine jp' ?_|(apply jc;kernel_rfl)|refine kg' ?_|refine kG' ?_|refine kB' fun _=>?_|refine kA' fun _=>?_|refine kK' fun _=>?_|refine kU' ?_|((first|refine kR' ?_ ?_|refine kQ' ?_ ?_);all_goals(intro hc;try simp only[hcs]at hc;try(exfalso;first|contradiction|omega))))
    apply LR.call
    · exact rfl
    intro w1 h1
    have h2 := St.join (x := codR bc br 0) (St.up2 (St.up2 h1)) rfl rfl
    refine CallsTo.mono (show CallsTo Tryz.prog 62 [.pointer (some ⟨bc, 0, none⟩)] w1 _ from e62 bc br a4 c4 (l1, 0) w1 (h2.holds (rD bc br a4 c4 (l1, 0)) (mH _ _)) hok1) ?_
    rintro v w2 ⟨a5, c5, rfl, st⟩
    rw [htt, hu] at *
    have h5 := St.did h2 (.head _ _ _) rfl st (rD_dep _ _ _ _ _)
    refine LR.back h5 ?_
    clear h1 h2 h5 st
    by_cases hk1 : k = 1
    · subst hk1
      rw [if_pos rfl] at hp
      simp only [Prod.mk.injEq] at hp
      obtain ⟨hpp, hs2⟩ := hp
      subst hpp
      repeat'(first|refine kv' ?_|apply jJ|refine jE' ?_|refine jp' ?_|(apply jc;kernel_rfl)|refine kg' ?_|refine kG' ?_|refine kB' fun _=>?_|refine kA' fun _=>?_|refine kK' fun _=>?_|refine kU' ?_|((first|refine kR' ?_ ?_|refine kQ' ?_ ?_);all_goals(intro hc;try simp only[hcs]at hc;try(exfalso;first|contradiction|omega))))
      apply LR.call
      · exact rfl
      intro w1 h1
      refine CallsTo.mono (show CallsTo Tryz.prog 63 [.pointer (some ⟨bc, 0, none⟩)] w1 _ from e63 bc br a5 c5 u w1 (h1.holds (rD bc br a5 c5 u) memZ) hok2) ?_
      rintro v w2 ⟨ma, mc, aZ, cZ, rfl, hmz, st⟩
      rw [hs2] at st

      have h5 := ((St.did h1 (.head _ _ _) rfl st (both_dep (rD_dep _ _ _ _ _) (osl.dep _ _ _ _ _))).part (rD_dep _ _ _ _ _) (osl.dep _ _ _ _ _)).part (Asrt.dep_own _ _) (rrA_dep _ _ _ _ _ _)
      refine LR.back h5 ?_
      clear h1 h5 st
      by_cases he : e2 = 0
      · subst he

        have hX : ∀ w2, (osl (.slice ma (datV u).msg.body.length mc) 5 1 (datV u).msg.body.length (bv (datV u).msg.body)).holds w2 → PktM w2 ({ zPkt with kind := 1, to := tt, d := datV u } : Pkt) ({ zA with da := ma, dc := mc }) := fun w2 h2 => ⟨ownsRow_rd h2, hmz, Rd.nil _ _, fun _ => rfl, Rd.nil _ _, fun _ => rfl⟩
        rw [if_neg (by simp)] at hr1
        by_cases hll : 0 < l2.length
        · rw [if_pos (.inl hll)] at hr1
          subst hr1
          have hck : chkP ({ zPkt with kind := 1, to := tt, d := datV u } : Pkt) = chkP ({ zPkt with kind := 1, to := tt, d := datV u } : Pkt) := rfl
          repeat'(first|(apply CW.reg_sink 6 (St w NoF [codR bc br 4]); (· exact rfl); (· decide +kernel))|refine kv' ?_|apply jJ|refine jE' ?_|refine jp' ?_|(apply jc;kernel_rfl)|refine kg' ?_|refine kG' ?_|refine kB' fun _=>?_|refine kA' fun _=>?_|refine kK' fun _=>?_|refine kU' ?_|(apply kq; (· exact rfl); (· intro w1 h1; first | exact CallsTo.q (show CallsTo Tryz.prog 67 [.pointer (some ⟨br, 0, none⟩)] w1 _ from c72 br aZ cZ l2 w1 (h1.holds (rrA 143 [] br aZ cZ l2) memZ)) h1 | (have hq := CallsTo.q (e10 ({ zPkt with kind := 1, to := tt, d := datV u } : Pkt) ({ zA with da := ma, dc := mc }) w1 ((hX w1 (h1.holds (osl (.slice ma (datV u).msg.body.length mc) 5 1 (datV u).msg.body.length (bv (datV u).msg.body)) memZ)).toR hpb (Nat.le_trans hpl (by omega)) hpa hpe)) h1; rw [hck] at hq; exact hq)))|((first|refine kR' ?_ ?_|refine kQ' ?_ ?_);all_goals(intro hc;try simp only[hcs]at hc;try(exfalso;first|contradiction|omega))))
          all_goals
            all_goals (
              apply DW.quiet [0, 1, 2, 3, 4]
              · decide +kernel
              · first | exact fun _ h => h | exact fun _ h => St.sub h subZ
              repeat'(first|refine yv' ?_|refine uv' ?_|refine un' ?_|(refine us' ?_ ?_;all_goals(intro hc;try simp only[hcs]at hc;try(exfalso;first|contradiction|omega)))|apply QL.nil)
              all_goals (show DW _ _ _ _ _ _ _ _))
            all_goals (
              apply DW.loud 5
              · exact rfl
              · decide +kernel
              repeat'(first|refine kg' ?_|refine kG' ?_|apply kM|refine kv' ?_|refine kK' fun _=>?_|refine kU' ?_|refine kB' fun _=>?_|refine kA' fun _=>?_|(apply addX;(iterate 2 exact rfl);(iterate 2(first|omega|(dsimp only;omega)));exact rfl))
              all_goals (refine At.stage_same (fun _ h => St.sub h subZ) ?_))
            all_goals (apply DW.done; (· decide +kernel))
            all_goals apply At.sink
            repeat'(first|refine kv' ?_|apply jJ|refine jE' ?_|refine jp' ?_|(apply jc;kernel_rfl)|refine kg' ?_|refine kG' ?_|refine kB' fun _=>?_|refine kA' fun _=>?_|refine kK' fun _=>?_|refine kU' ?_|((first|refine kR' ?_ ?_|refine kQ' ?_ ?_);all_goals(intro hc;try simp only[hcs]at hc;try(exfalso;first|contradiction|omega))))
            (apply ret2c; (· exact rfl); (· exact inferInstance); (· exact rfl); (· (repeat (first | exact List.Mem.head _ | apply List.Mem.tail))); (· exact rfl); intro w' hS)
            exact unp_zero 4 hS
        cases hck : chkP ({ zPkt with kind := 1, to := tt, d := datV u } : Pkt)
        · rw [if_pos (.inr hck)] at hr1
          subst hr1
          repeat'(first|(apply CW.reg_sink 6 (St w NoF [codR bc br 4]); (· exact rfl); (· decide +kernel))|refine kv' ?_|apply jJ|refine jE' ?_|refine jp' ?_|(apply jc;kernel_rfl)|refine kg' ?_|refine kG' ?_|refine kB' fun _=>?_|refine kA' fun _=>?_|refine kK' fun _=>?_|refine kU' ?_|(apply kq; (· exact rfl); (· intro w1 h1; first | exact CallsTo.q (show CallsTo Tryz.prog 67 [.pointer (some ⟨br, 0, none⟩)] w1 _ from c72 br aZ cZ l2 w1 (h1.holds (rrA 143 [] br aZ cZ l2) memZ)) h1 | (have hq := CallsTo.q (e10 ({ zPkt with kind := 1, to := tt, d := datV u } : Pkt) ({ zA with da := ma, dc := mc }) w1 ((hX w1 (h1.holds (osl (.slice ma (datV u).msg.body.length mc) 5 1 (datV u).msg.body.length (bv (datV u).msg.body)) memZ)).toR hpb (Nat.le_trans hpl (by omega)) hpa hpe)) h1; rw [hck] at hq; exact hq)))|((first|refine kR' ?_ ?_|refine kQ' ?_ ?_);all_goals(intro hc;try simp only[hcs]at hc;try(exfalso;first|contradiction|omega))))
          all_goals
            all_goals (
              apply DW.quiet [0, 1, 2, 3, 4]
              · decide +kernel
              · first | exact fun _ h => h | exact fun _ h => St.sub h subZ
              repeat'(first|refine yv' ?_|refine uv' ?_|refine un' ?_|(refine us' ?_ ?_;all_goals(intro hc;try simp only[hcs]at hc;try(exfalso;first|contradiction|omega)))|apply QL.nil)
              all_goals (show DW _ _ _ _ _ _ _ _))
            all_goals (
              apply DW.loud 5
              · exact rfl
              · decide +kernel
              repeat'(first|refine kg' ?_|refine kG' ?_|apply kM|refine kv' ?_|refine kK' fun _=>?_|refine kU' ?_|refine kB' fun _=>?_|refine kA' fun _=>?_|(apply addX;(iterate 2 exact rfl);(iterate 2(first|omega|(dsimp only;omega)));exact rfl))
              all_goals (refine At.stage_same (fun _ h => St.sub h subZ) ?_))
            all_goals (apply DW.done; (· decide +kernel))
            all_goals apply At.sink
            repeat'(first|refine kv' ?_|apply jJ|refine jE' ?_|refine jp' ?_|(apply jc;kernel_rfl)|refine kg' ?_|refine kG' ?_|refine kB' fun _=>?_|refine kA' fun _=>?_|refine kK' fun _=>?_|refine kU' ?_|((first|refine kR' ?_ ?_|refine kQ' ?_ ?_);all_goals(intro hc;try simp only[hcs]at hc;try(exfalso;first|contradiction|omega))))
            (apply ret2c; (· exact rfl); (· exact inferInstance); (· exact rfl); (· (repeat (first | exact List.Mem.head _ | apply List.Mem.tail))); (· exact rfl); intro w' hS)
            exact unp_zero 4 hS
        · rw [if_neg (fun h => h.elim hll (fun h => Bool.noConfusion (hck.symm.trans h)))] at hr1
          subst hr1
          repeat'(first|refine kv' ?_|apply jJ|refine jE' ?_|refine jp' ?_|(apply jc;kernel_rfl)|refine kg' ?_|refine kG' ?_|refine kB' fun _=>?_|refine kA' fun _=>?_|refine kK' fun _=>?_|refine kU' ?_|(apply kq; (· exact rfl); (· intro w1 h1; first | exact CallsTo.q (show CallsTo Tryz.prog 67 [.pointer (some ⟨br, 0, none⟩)] w1 _ from c72 br aZ cZ l2 w1 (h1.holds (rrA 143 [] br aZ cZ l2) memZ)) h1 | (have hq := CallsTo.q (e10 ({ zPkt with kind := 1, to := tt, d := datV u } : Pkt) ({ zA with da := ma, dc := mc }) w1 ((hX w1 (h1.holds (osl (.slice ma (datV u).msg.body.length mc) 5 1 (datV u).msg.body.length (bv (datV u).msg.body)) memZ)).toR hpb (Nat.le_trans hpl (by omega)) hpa hpe)) h1; rw [hck] at hq; exact hq)))|((first|refine kR' ?_ ?_|refine kQ' ?_ ?_);all_goals(intro hc;try simp only[hcs]at hc;try(exfalso;first|contradiction|omega))))
          (apply ret2c; (· exact rfl); (· exact inferInstance); (· exact rfl); (· (repeat (first | exact List.Mem.head _ | apply List.Mem.tail))); (· exact rfl); intro w' hS)
          exact ⟨{ zA with da := ma, dc := mc }, osl (.slice ma (datV u).msg.body.length mc) 5 1 (datV u).msg.body.length (bv (datV u).msg.body), rfl, (hS.sub (L' := [osl (.slice ma (datV u).msg.body.length mc) 5 1 (datV u).msg.body.length (bv (datV u).msg.body)]) subZ).new1 rfl, osl.dep _ _ _ _ _, rfl, hX⟩
      · skip

        rw [if_pos he] at hr1
        subst hr1
        repeat'(first|(apply CW.reg_sink 6 (St w NoF [codR bc br e2]); (· exact rfl); (· decide +kernel))|refine kv' ?_|apply jJ|refine jE' ?_|refine jp' ?_|(apply jc;kernel_rfl)|refine kg' ?_|refine kG' ?_|refine kB' fun _=>?_|refine kA' fun _=>?_|refine kK' fun _=>?_|refine kU' ?_|((first|refine kR' ?_ ?_|refine kQ' ?_ ?_);all_goals(intro hc;try simp only[hcs]at hc;try(exfalso;first|contradiction|omega))))
        all_goals
          all_goals (
            apply DW.quiet [0, 1, 2, 3, 4]
            · decide +kernel
            · first | exact fun _ h => h | exact fun _ h => St.sub h subZ
            repeat'(first|refine yv' ?_|refine uv' ?_|refine un' ?_|(refine us' ?_ ?_;all_goals(intro hc;try simp only[hcs]at hc;try(exfalso;first|contradiction|omega)))|apply QL.nil)
            all_goals (show DW _ _ _ _ _ _ _ _))
          all_goals (
            apply DW.loud 5
            · exact rfl
            · decide +kernel
            repeat'(first|refine kg' ?_|refine kG' ?_|apply kM|refine kv' ?_|refine kK' fun _=>?_|refine kU' ?_|refine kB' fun _=>?_|refine kA' fun _=>?_|(apply addX;(iterate 2 exact rfl);(iterate 2(first|omega|(dsimp only;omega)));exact rfl))
            all_goals (refine At.stage_same (fun _ h => St.sub h subZ) ?_))
          all_goals (apply DW.done; (· decide +kernel))
          all_goals apply At.sink
          repeat'(first|refine kv' ?_|apply jJ|refine jE' ?_|refine jp' ?_|(apply jc;kernel_rfl)|refine kg' ?_|refine kG' ?_|refine kB' fun _=>?_|refine kA' fun _=>?_|refine kK' fun _=>?_|refine kU' ?_|((first|refine kR' ?_ ?_|refine kQ' ?_ ?_);all_goals(intro hc;try simp only[hcs]at hc;try(exfalso;first|contradiction|omega))))
          (apply ret2c; (· exact rfl); (· exact inferInstance); (· exact rfl); (· (repeat (first | exact List.Mem.head _ | apply List.Mem.tail))); (· exact rfl); intro w' hS)
          exact unp_zero e2 hS
    by_cases hk2 : k = 2
    · subst hk2
      rw [if_neg (by decide), if_pos rfl] at hp
      simp only [Prod.mk.injEq] at hp
      obtain ⟨hpp, hs2⟩ := hp
      subst hpp
      repeat'(first|refine kv' ?_|apply jJ|refine jE' ?_|refine jp' ?_|(apply jc;kernel_rfl)|refine kg' ?_|refine kG' ?_|refine kB' fun _=>?_|refine kA' fun _=>?_|refine kK' fun _=>?_|refine kU' ?_|((first|refine kR' ?_ ?_|refine kQ' ?_ ?_);all_goals(intro hc;try simp only[hcs]at hc;try(exfalso;first|contradiction|omega))))
      apply LR.call
      · exact rfl
      intro w1 h1
      refine CallsTo.mono (show CallsTo Tryz.prog 64 [.pointer (some ⟨bc, 0, none⟩)] w1 _ from e64 bc br a5 c5 u w1 (h1.holds (rD bc br a5 c5 u) memZ) hok2) ?_
      rintro v w2 ⟨t, ta, tc, aZ, cZ, rfl, hmz, ht, st⟩
      have hT : tokT u = (l2, e2) := hs2
      rw [hT] at st ht

      have h5 := ((St.did h1 (.head _ _ _) rfl st (both_dep (rD_dep _ _ _ _ _) (osl.dep _ _ _ _ _))).part (rD_dep _ _ _ _ _) (osl.dep _ _ _ _ _)).part (Asrt.dep_own _ _) (rrA_dep _ _ _ _ _ _)
      refine LR.back h5 ?_
      clear h1 h5 st
      by_cases he : e2 = 0
      · subst he
        have htt9 := ht rfl
        subst htt9
        have hX : ∀ w2, (osl (.slice ta (tokV u).ask.length tc) 3 1 (tokV u).ask.length (iv (tokV u).ask)).holds w2 → PktM w2 ({ zPkt with kind := 2, to := tt, t := tokV u } : Pkt) ({ zA with ta := ta, tc := tc }) := fun w2 h2 => ⟨Rd.nil _ _, fun _ => rfl, ownsRow_rd h2, hmz, Rd.nil _ _, fun _ => rfl⟩
        rw [if_neg (by simp)] at hr1
        by_cases hll : 0 < l2.length
        · rw [if_pos (.inl hll)] at hr1
          subst hr1
          have hck : chkP ({ zPkt with kind := 2, to := tt, t := tokV u } : Pkt) = chkP ({ zPkt with kind := 2, to := tt, t := tokV u } : Pkt) := rfl
          repeat'(first|(apply CW.reg_sink 6 (St w NoF [codR bc br 4]); (· exact rfl); (· decide +kernel))|refine kv' ?_|apply jJ|refine jE' ?_|refine jp' ?_|(apply jc;kernel_rfl)|refine kg' ?_|refine kG' ?_|refine kB' fun _=>?_|refine kA' fun _=>?_|refine kK' fun _=>?_|refine kU' ?_|(apply kq; (· exact rfl); (· intro w1 h1; first | exact CallsTo.q (show CallsTo Tryz.prog 67 [.pointer (some ⟨br, 0, none⟩)] w1 _ from c72 br aZ cZ l2 w1 (h1.holds (rrA 143 [] br aZ cZ l2) memZ)) h1 | (have hq := CallsTo.q (e10 ({ zPkt with kind := 2, to := tt, t := tokV u } : Pkt) ({ zA with ta := ta, tc := tc }) w1 ((hX w1 (h1.holds (osl (.slice ta (tokV u).ask.length tc) 3 1 (tokV u).ask.length (iv (tokV u).ask)) memZ)).toR hpb (Nat.le_trans hpl (by omega)) hpa hpe)) h1; rw [hck] at hq; exact hq)))|((first|refine kR' ?_ ?_|refine kQ' ?_ ?_);all_goals(intro hc;try simp only[hcs]at hc;try(exfalso;first|contradiction|omega))))
          all_goals
            all_goals (
              apply DW.quiet [0, 1, 2, 3, 4]
              · decide +kernel
              · first | exact fun _ h => h | exact fun _ h => St.sub h subZ
              repeat'(first|refine yv' ?_|refine uv' ?_|refine un' ?_|(refine us' ?_ ?_;all_goals(intro hc;try simp only[hcs]at hc;try(exfalso;first|contradiction|omega)))|apply QL.nil)
              all_goals (show DW _ _ _ _ _ _ _ _))
            all_goals (
              apply DW.loud 5
              · exact rfl
              · decide +kernel
              repeat'(first|refine kg' ?_|refine kG' ?_|apply kM|refine kv' ?_|refine kK' fun _=>?_|refine kU' ?_|refine kB' fun _=>?_|refine kA' fun _=>?_|(apply addX;(iterate 2 exact rfl);(iterate 2(first|omega|(dsimp only;omega)));exact rfl))
              all_goals (refine At.stage_same (fun _ h => St.sub h subZ) ?_))
            all_goals (apply DW.done; (· decide +kernel))
            all_goals apply At.sink
            repeat'(first|refine kv' ?_|apply jJ|refine jE' ?_|refine jp' ?_|(apply jc;kernel_rfl)|refine kg' ?_|refine kG' ?_|refine kB' fun _=>?_|refine kA' fun _=>?_|refine kK' fun _=>?_|refine kU' ?_|((first|refine kR' ?_ ?_|refine kQ' ?_ ?_);all_goals(intro hc;try simp only[hcs]at hc;try(exfalso;first|contradiction|omega))))
            (apply ret2c; (· exact rfl); (· exact inferInstance); (· exact rfl); (· (repeat (first | exact List.Mem.head _ | apply List.Mem.tail))); (· exact rfl); intro w' hS)
            exact unp_zero 4 hS
        cases hck : chkP ({ zPkt with kind := 2, to := tt, t := tokV u } : Pkt)
        · rw [if_pos (.inr hck)] at hr1
          subst hr1
          repeat'(first|(apply CW.reg_sink 6 (St w NoF [codR bc br 4]); (· exact rfl); (· decide +kernel))|refine kv' ?_|apply jJ|refine jE' ?_|refine jp' ?_|(apply jc;kernel_rfl)|refine kg' ?_|refine kG' ?_|refine kB' fun _=>?_|refine kA' fun _=>?_|refine kK' fun _=>?_|refine kU' ?_|(apply kq; (· exact rfl); (· intro w1 h1; first | exact CallsTo.q (show CallsTo Tryz.prog 67 [.pointer (some ⟨br, 0, none⟩)] w1 _ from c72 br aZ cZ l2 w1 (h1.holds (rrA 143 [] br aZ cZ l2) memZ)) h1 | (have hq := CallsTo.q (e10 ({ zPkt with kind := 2, to := tt, t := tokV u } : Pkt) ({ zA with ta := ta, tc := tc }) w1 ((hX w1 (h1.holds (osl (.slice ta (tokV u).ask.length tc) 3 1 (tokV u).ask.length (iv (tokV u).ask)) memZ)).toR hpb (Nat.le_trans hpl (by omega)) hpa hpe)) h1; rw [hck] at hq; exact hq)))|((first|refine kR' ?_ ?_|refine kQ' ?_ ?_);all_goals(intro hc;try simp only[hcs]at hc;try(exfalso;first|contradiction|omega))))
          all_goals
            all_goals (
              apply DW.quiet [0, 1, 2, 3, 4]
              · decide +kernel
              · first | exact fun _ h => h | exact fun _ h => St.sub h subZ
              repeat'(first|refine yv' ?_|refine uv' ?_|refine un' ?_|(refine us' ?_ ?_;all_goals(intro hc;try simp only[hcs]at hc;try(exfalso;first|contradiction|omega)))|apply QL.nil)
              all_goals (show DW _ _ _ _ _ _ _ _))
            all_goals (
              apply DW.loud 5
              · exact rfl
              · decide +kernel
              repeat'(first|refine kg' ?_|refine kG' ?_|apply kM|refine kv' ?_|refine kK' fun _=>?_|refine kU' ?_|refine kB' fun _=>?_|refine kA' fun _=>?_|(apply addX;(iterate 2 exact rfl);(iterate 2(first|omega|(dsimp only;omega)));exact rfl))
              all_goals (refine At.stage_same (fun _ h => St.sub h subZ) ?_))
            all_goals (apply DW.done; (· decide +kernel))
            all_goals apply At.sink
            repeat'(first|refine kv' ?_|apply jJ|refine jE' ?_|refine jp' ?_|(apply jc;kernel_rfl)|refine kg' ?_|refine kG' ?_|refine kB' fun _=>?_|refine kA' fun _=>?_|refine kK' fun _=>?_|refine kU' ?_|((first|refine kR' ?_ ?_|refine kQ' ?_ ?_);all_goals(intro hc;try simp only[hcs]at hc;try(exfalso;first|contradiction|omega))))
            (apply ret2c; (· exact rfl); (· exact inferInstance); (· exact rfl); (· (repeat (first | exact List.Mem.head _ | apply List.Mem.tail))); (· exact rfl); intro w' hS)
            exact unp_zero 4 hS
        · rw [if_neg (fun h => h.elim hll (fun h => Bool.noConfusion (hck.symm.trans h)))] at hr1
          subst hr1
          repeat'(first|refine kv' ?_|apply jJ|refine jE' ?_|refine jp' ?_|(apply jc;kernel_rfl)|refine kg' ?_|refine kG' ?_|refine kB' fun _=>?_|refine kA' fun _=>?_|refine kK' fun _=>?_|refine kU' ?_|(apply kq; (· exact rfl); (· intro w1 h1; first | exact CallsTo.q (show CallsTo Tryz.prog 67 [.pointer (some ⟨br, 0, none⟩)] w1 _ from c72 br aZ cZ l2 w1 (h1.holds (rrA 143 [] br aZ cZ l2) memZ)) h1 | (have hq := CallsTo.q (e10 ({ zPkt with kind := 2, to := tt, t := tokV u } : Pkt) ({ zA with ta := ta, tc := tc }) w1 ((hX w1 (h1.holds (osl (.slice ta (tokV u).ask.length tc) 3 1 (tokV u).ask.length (iv (tokV u).ask)) memZ)).toR hpb (Nat.le_trans hpl (by omega)) hpa hpe)) h1; rw [hck] at hq; exact hq)))|((first|refine kR' ?_ ?_|refine kQ' ?_ ?_);all_goals(intro hc;try simp only[hcs]at hc;try(exfalso;first|contradiction|omega))))
          (apply ret2c; (· exact rfl); (· exact inferInstance); (· exact rfl); (· (repeat (first | exact List.Mem.head _ | apply List.Mem.tail))); (· exact rfl); intro w' hS)
          exact ⟨{ zA with ta := ta, tc := tc }, osl (.slice ta (tokV u).ask.length tc) 3 1 (tokV u).ask.length (iv (tokV u).ask), rfl, (hS.sub (L' := [osl (.slice ta (tokV u).ask.length tc) 3 1 (tokV u).ask.length (iv (tokV u).ask)]) subZ).new1 rfl, osl.dep _ _ _ _ _, rfl, hX⟩
      · skip

        rw [if_pos he] at hr1
        subst hr1
        repeat'(first|(apply CW.reg_sink 6 (St w NoF [codR bc br e2]); (· exact rfl); (· decide +kernel))|refine kv' ?_|apply jJ|refine jE' ?_|refine jp' ?_|(apply jc;kernel_rfl)|refine kg' ?_|refine kG' ?_|refine kB' fun _=>?_|refine kA' fun _=>?_|refine kK' fun _=>?_|refine kU' ?_|((first|refine kR' ?_ ?_|refine kQ' ?_ ?_);all_goals(intro hc;try simp only[hcs]at hc;try(exfalso;first|contradiction|omega))))
        all_goals
          all_goals (
            apply DW.quiet [0, 1, 2, 3, 4]
            · decide +kernel
            · first | exact fun _ h => h | exact fun _ h => St.sub h subZ
            repeat'(first|refine yv' ?_|refine uv' ?_|refine un' ?_|(refine us' ?_ ?_;all_goals(intro hc;try simp only[hcs]at hc;try(exfalso;first|contradiction|omega)))|apply QL.nil)
            all_goals (show DW _ _ _ _ _ _ _ _))
          all_goals (
            apply DW.loud 5
            · exact rfl
            · decide +kernel
            repeat'(first|refine kg' ?_|refine kG' ?_|apply kM|refine kv' ?_|refine kK' fun _=>?_|refine kU' ?_|refine kB' fun _=>?_|refine kA' fun _=>?_|(apply addX;(iterate 2 exact rfl);(iterate 2(first|omega|(dsimp only;omega)));exact rfl))
            all_goals (refine At.stage_same (fun _ h => St.sub h subZ) ?_))
          all_goals (apply DW.done; (· decide +kernel))
          all_goals apply At.sink
          repeat'(first|refine kv' ?_|apply jJ|refine jE' ?_|refine jp' ?_|(apply jc;kernel_rfl)|refine kg' ?_|refine kG' ?_|refine kB' fun _=>?_|refine kA' fun _=>?_|refine kK' fun _=>?_|refine kU' ?_|((first|refine kR' ?_ ?_|refine kQ' ?_ ?_);all_goals(intro hc;try simp only[hcs]at hc;try(exfalso;first|contradiction|omega))))
          (apply ret2c; (· exact rfl); (· exact inferInstance); (· exact rfl); (· (repeat (first | exact List.Mem.head _ | apply List.Mem.tail))); (· exact rfl); intro w' hS)
          exact unp_zero e2 hS
    by_cases hk3 : k = 3
    · subst hk3
      rw [if_neg (by decide), if_neg (by decide), if_pos rfl] at hp
      simp only [Prod.mk.injEq] at hp
      obtain ⟨hpp, hs2⟩ := hp
      subst hpp
      repeat'(first|refine kv' ?_|apply jJ|refine jE' ?_|refine jp' ?_|(apply jc;kernel_rfl)|refine kg' ?_|refine kG' ?_|refine kB' fun _=>?_|refine kA' fun _=>?_|refine kK' fun _=>?_|refine kU' ?_|(apply LR.call (d := 64); (· exact rfl); (intro w1 h1; refine CallsTo.mono (show CallsTo Tryz.prog 62 [.pointer (some ⟨bc, 0, none⟩)] w1 _ from e62 bc br a5 c5 u w1 (h1.holds (rD bc br a5 c5 u) memZ) hok2) ?_; rintro v w2 ⟨a6, c6, rfl, st⟩; refine LR.back (St.did h1 selZ rfl st (rD_dep _ _ _ _ _)) ?_; clear st h1))|(apply LR.call (d := 68); (· exact rfl); (intro w1 h1; refine CallsTo.mono (show CallsTo Tryz.prog 62 [.pointer (some ⟨bc, 0, none⟩)] w1 _ from e62 bc br a6 c6 (gT u) w1 (h1.holds (rD bc br a6 c6 (gT u)) memZ) (okS_gT hok2)) ?_; rintro v w2 ⟨a7, c7, rfl, st⟩; refine LR.back (St.did h1 selZ rfl st (rD_dep _ _ _ _ _)) ?_; clear st h1))|(apply LR.call (d := 83); (· exact rfl); (intro w1 h1; refine CallsTo.mono (show CallsTo Tryz.prog 66 [.pointer (some ⟨bc, 0, none⟩)] w1 _ from e66 bc br a5 c5 u w1 (h1.holds (rD bc br a5 c5 u) memZ) hok2) ?_; rintro v w2 ⟨a7, c7, rfl, st⟩; refine LR.back (St.did h1 selZ rfl st (rD_dep _ _ _ _ _)) ?_; clear st h1))|((first|refine kR' ?_ ?_|refine kQ' ?_ ?_);all_goals(intro hc;try simp only[hcs]at hc;try(exfalso;first|contradiction|omega))))
      apply LR.call
      · exact rfl
      intro w1 h1
      refine CallsTo.mono (show CallsTo Tryz.prog 62 [.pointer (some ⟨bc, 0, none⟩)] w1 _ from e62 bc br a7 c7 (gT (gT u)) w1 (h1.holds (rD bc br a7 c7 (gT (gT u))) memZ) (okS_gT (okS_gT hok2))) ?_
      rintro v w2 ⟨aZ, cZ, rfl, st⟩
      rw [hs2] at st
      have h5 := ((St.did h1 (.head _ _ _) rfl st (rD_dep _ _ _ _ _)).part (Asrt.dep_own _ _) (rrA_dep _ _ _ _ _ _)).nilsl 3 1
      refine LR.back h5 ?_
      clear h1 h5 st
      by_cases he : e2 = 0
      · subst he

        have hX : ∀ w2, (osl (.slice none 0 0) 3 1 0 []).holds w2 → PktM w2 ({ zPkt with kind := 3, to := tt, j1 := gV u, j2 := gV (gT u), j3 := gV (gT (gT u)) } : Pkt) (zA) := fun w2 _ => ⟨Rd.nil _ _, fun _ => rfl, Rd.nil _ _, fun _ => rfl, Rd.nil _ _, fun _ => rfl⟩
        rw [if_neg (by simp)] at hr1
        by_cases hll : 0 < l2.length
        · rw [if_pos (.inl hll)] at hr1
          subst hr1
          have hck : chkP ({ zPkt with kind := 3, to := tt, j1 := gV u, j2 := gV (gT u), j3 := gV (gT (gT u)) } : Pkt) = chkP ({ zPkt with kind := 3, to := tt, j1 := gV u, j2 := gV (gT u), j3 := gV (gT (gT u)) } : Pkt) := rfl
          repeat'(first|(apply CW.reg_sink 6 (St w NoF [codR bc br 4]); (· exact rfl); (· decide +kernel))|refine kv' ?_|apply jJ|refine jE' ?_|refine jp' ?_|(apply jc;kernel_rfl)|refine kg' ?_|refine kG' ?_|refine kB' fun _=>?_|refine kA' fun _=>?_|refine kK' fun _=>?_|refine kU' ?_|(apply kq; (· exact rfl); (· intro w1 h1; first | exact CallsTo.q (show CallsTo Tryz.prog 67 [.pointer (some ⟨br, 0, none⟩)] w1 _ from c72 br aZ cZ l2 w1 (h1.holds (rrA 143 [] br aZ cZ l2) memZ)) h1 | (have hq := CallsTo.q (e10 ({ zPkt with kind := 3, to := tt, j1 := gV u, j2 := gV (gT u), j3 := gV (gT (gT u)) } : Pkt) (zA) w1 ((hX w1 (h1.holds (osl (.slice none 0 0) 3 1 0 []) memZ)).toR hpb (Nat.le_trans hpl (by omega)) hpa hpe)) h1; rw [hck] at hq; exact hq)))|((first|refine kR' ?_ ?_|refine kQ' ?_ ?_);all_goals(intro hc;try simp only[hcs]at hc;try(exfalso;first|contradiction|omega))))
          all_goals
            all_goals (
              apply DW.quiet [0, 1, 2, 3, 4]
              · decide +kernel
              · first | exact fun _ h => h | exact fun _ h => St.sub h subZ
              repeat'(first|refine yv' ?_|refine uv' ?_|refine un' ?_|(refine us' ?_ ?_;all_goals(intro hc;try simp only[hcs]at hc;try(exfalso;first|contradiction|omega)))|apply QL.nil)
              all_goals (show DW _ _ _ _ _ _ _ _))
            all_goals (
              apply DW.loud 5
              · exact rfl
              · decide +kernel
              repeat'(first|refine kg' ?_|refine kG' ?_|apply kM|refine kv' ?_|refine kK' fun _=>?_|refine kU' ?_|refine kB' fun _=>?_|refine kA' fun _=>?_|(apply addX;(iterate 2 exact rfl);(iterate 2(first|omega|(dsimp only;omega)));exact rfl))
              all_goals (refine At.stage_same (fun _ h => St.sub h subZ) ?_))
            all_goals (apply DW.done; (· decide +kernel))
            all_goals apply At.sink
            repeat'(first|refine kv' ?_|apply jJ|refine jE' ?_|refine jp' ?_|(apply jc;kernel_rfl)|refine kg' ?_|refine kG' ?_|refine kB' fun _=>?_|refine kA' fun _=>?_|refine kK' fun _=>?_|refine kU' ?_|((first|refine kR' ?_ ?_|refine kQ' ?_ ?_);all_goals(intro hc;try simp only[hcs]at hc;try(exfalso;first|contradiction|omega))))
            (apply ret2c; (· exact rfl); (· exact inferInstance); (· exact rfl); (· (repeat (first | exact List.Mem.head _ | apply List.Mem.tail))); (· exact rfl); intro w' hS)
            exact unp_zero 4 hS
        cases hck : chkP ({ zPkt with kind := 3, to := tt, j1 := gV u, j2 := gV (gT u), j3 := gV (gT (gT u)) } : Pkt)
        · rw [if_pos (.inr hck)] at hr1
          subst hr1
          repeat'(first|(apply CW.reg_sink 6 (St w NoF [codR bc br 4]); (· exact rfl); (· decide +kernel))|refine kv' ?_|apply jJ|refine jE' ?_|refine jp' ?_|(apply jc;kernel_rfl)|refine kg' ?_|refine kG' ?_|refine kB' fun _=>?_|refine kA' fun _=>?_|refine kK' fun _=>?_|refine kU' ?_|(apply kq; (· exact rfl); (· intro w1 h1; first | exact CallsTo.q (show CallsTo Tryz.prog 67 [.pointer (some ⟨br, 0, none⟩)] w1 _ from c72 br aZ cZ l2 w1 (h1.holds (rrA 143 [] br aZ cZ l2) memZ)) h1 | (have hq := CallsTo.q (e10 ({ zPkt with kind := 3, to := tt, j1 := gV u, j2 := gV (gT u), j3 := gV (gT (gT u)) } : Pkt) (zA) w1 ((hX w1 (h1.holds (osl (.slice none 0 0) 3 1 0 []) memZ)).toR hpb (Nat.le_trans hpl (by omega)) hpa hpe)) h1; rw [hck] at hq; exact hq)))|((first|refine kR' ?_ ?_|refine kQ' ?_ ?_);all_goals(intro hc;try simp only[hcs]at hc;try(exfalso;first|contradiction|omega))))
          all_goals
            all_goals (
              apply DW.quiet [0, 1, 2, 3, 4]
              · decide +kernel
              · first | exact fun _ h => h | exact fun _ h => St.sub h subZ
              repeat'(first|refine yv' ?_|refine uv' ?_|refine un' ?_|(refine us' ?_ ?_;all_goals(intro hc;try simp only[hcs]at hc;try(exfalso;first|contradiction|omega)))|apply QL.nil)
              all_goals (show DW _ _ _ _ _ _ _ _))
            all_goals (
              apply DW.loud 5
              · exact rfl
              · decide +kernel
              repeat'(first|refine kg' ?_|refine kG' ?_|apply kM|refine kv' ?_|refine kK' fun _=>?_|refine kU' ?_|refine kB' fun _=>?_|refine kA' fun _=>?_|(apply addX;(iterate 2 exact rfl);(iterate 2(first|omega|(dsimp only;omega)));exact rfl))
              all_goals (refine At.stage_same (fun _ h => St.sub h subZ) ?_))
            all_goals (apply DW.done; (· decide +kernel))
            all_goals apply At.sink
            repeat'(first|refine kv' ?_|apply jJ|refine jE' ?_|refine jp' ?_|(apply jc;kernel_rfl)|refine kg' ?_|refine kG' ?_|refine kB' fun _=>?_|refine kA' fun _=>?_|refine kK' fun _=>?_|refine kU' ?_|((first|refine kR' ?_ ?_|refine kQ' ?_ ?_);all_goals(intro hc;try simp only[hcs]at hc;try(exfalso;first|contradiction|omega))))
            (apply ret2c; (· exact rfl); (· exact inferInstance); (· exact rfl); (· (repeat (first | exact List.Mem.head _ | apply List.Mem.tail))); (· exact rfl); intro w' hS)
            exact unp_zero 4 hS
        · rw [if_neg (fun h => h.elim hll (fun h => Bool.noConfusion (hck.symm.trans h)))] at hr1
          subst hr1
          repeat'(first|refine kv' ?_|apply jJ|refine jE' ?_|refine jp' ?_|(apply jc;kernel_rfl)|refine kg' ?_|refine kG' ?_|refine kB' fun _=>?_|refine kA' fun _=>?_|refine kK' fun _=>?_|refine kU' ?_|(apply kq; (· exact rfl); (· intro w1 h1; first | exact CallsTo.q (show CallsTo Tryz.prog 67 [.pointer (some ⟨br, 0, none⟩)] w1 _ from c72 br aZ cZ l2 w1 (h1.holds (rrA 143 [] br aZ cZ l2) memZ)) h1 | (have hq := CallsTo.q (e10 ({ zPkt with kind := 3, to := tt, j1 := gV u, j2 := gV (gT u), j3 := gV (gT (gT u)) } : Pkt) (zA) w1 ((hX w1 (h1.holds (osl (.slice none 0 0) 3 1 0 []) memZ)).toR hpb (Nat.le_trans hpl (by omega)) hpa hpe)) h1; rw [hck] at hq; exact hq)))|((first|refine kR' ?_ ?_|refine kQ' ?_ ?_);all_goals(intro hc;try simp only[hcs]at hc;try(exfalso;first|contradiction|omega))))
          (apply ret2c; (· exact rfl); (· exact inferInstance); (· exact rfl); (· (repeat (first | exact List.Mem.head _ | apply List.Mem.tail))); (· exact rfl); intro w' hS)
          exact ⟨zA, osl (.slice none 0 0) 3 1 0 [], rfl, (hS.sub (L' := [osl (.slice none 0 0) 3 1 0 []]) subZ).new1 rfl, osl.dep _ _ _ _ _, rfl, hX⟩
      · skip

        rw [if_pos he] at hr1
        subst hr1
        repeat'(first|(apply CW.reg_sink 6 (St w NoF [codR bc br e2]); (· exact rfl); (· decide +kernel))|refine kv' ?_|apply jJ|refine jE' ?_|refine jp' ?_|(apply jc;kernel_rfl)|refine kg' ?_|refine kG' ?_|refine kB' fun _=>?_|refine kA' fun _=>?_|refine kK' fun _=>?_|refine kU' ?_|((first|refine kR' ?_ ?_|refine kQ' ?_ ?_);all_goals(intro hc;try simp only[hcs]at hc;try(exfalso;first|contradiction|omega))))
        all_goals
          all_goals (
            apply DW.quiet [0, 1, 2, 3, 4]
            · decide +kernel
            · first | exact fun _ h => h | exact fun _ h => St.sub h subZ
            repeat'(first|refine yv' ?_|refine uv' ?_|refine un' ?_|(refine us' ?_ ?_;all_goals(intro hc;try simp only[hcs]at hc;try(exfalso;first|contradiction|omega)))|apply QL.nil)
            all_goals (show DW _ _ _ _ _ _ _ _))
          all_goals (
            apply DW.loud 5
            · exact rfl
            · decide +kernel
            repeat'(first|refine kg' ?_|refine kG' ?_|apply kM|refine kv' ?_|refine kK' fun _=>?_|refine kU' ?_|refine kB' fun _=>?_|refine kA' fun _=>?_|(apply addX;(iterate 2 exact rfl);(iterate 2(first|omega|(dsimp only;omega)));exact rfl))
            all_goals (refine At.stage_same (fun _ h => St.sub h subZ) ?_))
          all_goals (apply DW.done; (· decide +kernel))
          all_goals apply At.sink
          repeat'(first|refine kv' ?_|apply jJ|refine jE' ?_|refine jp' ?_|(apply jc;kernel_rfl)|refine kg' ?_|refine kG' ?_|refine kB' fun _=>?_|refine kA' fun _=>?_|refine kK' fun _=>?_|refine kU' ?_|((first|refine kR' ?_ ?_|refine kQ' ?_ ?_);all_goals(intro hc;try simp only[hcs]at hc;try(exfalso;first|contradiction|omega))))
          (apply ret2c; (· exact rfl); (· exact inferInstance); (· exact rfl); (· (repeat (first | exact List.Mem.head _ | apply List.Mem.tail))); (· exact rfl); intro w' hS)
          exact unp_zero e2 hS
    by_cases hk4 : k = 4
    · subst hk4
      rw [if_neg (by decide), if_neg (by decide), if_neg (by decide), if_pos rfl] at hp
      simp only [Prod.mk.injEq] at hp
      obtain ⟨hpp, hs2⟩ := hp
      subst hpp
      repeat'(first|refine kv' ?_|apply jJ|refine jE' ?_|refine jp' ?_|(apply jc;kernel_rfl)|refine kg' ?_|refine kG' ?_|refine kB' fun _=>?_|refine kA' fun _=>?_|refine kK' fun _=>?_|refine kU' ?_|((first|refine kR' ?_ ?_|refine kQ' ?_ ?_);all_goals(intro hc;try simp only[hcs]at hc;try(exfalso;first|contradiction|omega))))
      apply LR.call
      · exact rfl
      intro w1 h1
      refine CallsTo.mono (show CallsTo Tryz.prog 65 [.pointer (some ⟨bc, 0, none⟩)] w1 _ from e65 bc br a5 c5 u w1 (h1.holds (rD bc br a5 c5 u) memZ) hok2) ?_
      rintro v w2 ⟨t, ta, tc, aZ, cZ, rfl, hmz, ht, st⟩
      have hT : comT u = (l2, e2) := hs2
      rw [hT] at st ht

      have h5 := ((St.did h1 (.head _ _ _) rfl st (both_dep (rD_dep _ _ _ _ _) (osl.dep _ _ _ _ _))).part (rD_dep _ _ _ _ _) (osl.dep _ _ _ _ _)).part (Asrt.dep_own _ _) (rrA_dep _ _ _ _ _ _)
      refine LR.back h5 ?_
      clear h1 h5 st
      by_cases he : e2 = 0
      · subst he
        have htt9 := ht rfl
        subst htt9
        have hX : ∀ w2, (osl (.slice ta (comV u).ents.length tc) 77 6 (comV u).ents.length ((comV u).ents.flatMap Ent.cells)).holds w2 → PktM w2 ({ zPkt with kind := 4, to := tt, c := comV u } : Pkt) ({ zA with ca := ta, cc := tc }) := fun w2 h2 => ⟨Rd.nil _ _, fun _ => rfl, Rd.nil _ _, fun _ => rfl, ownsRow_rd h2, hmz⟩
        rw [if_neg (by simp)] at hr1
        by_cases hll : 0 < l2.length
        · rw [if_pos (.inl hll)] at hr1
          subst hr1
          have hck : chkP ({ zPkt with kind := 4, to := tt, c := comV u } : Pkt) = chkP ({ zPkt with kind := 4, to := tt, c := comV u } : Pkt) := rfl
          repeat'(first|(apply CW.reg_sink 6 (St w NoF [codR bc br 4]); (· exact rfl); (· decide +kernel))|refine kv' ?_|apply jJ|refine jE' ?_|refine jp' ?_|(apply jc;kernel_rfl)|refine kg' ?_|refine kG' ?_|refine kB' fun _=>?_|refine kA' fun _=>?_|refine kK' fun _=>?_|refine kU' ?_|(apply kq; (· exact rfl); (· intro w1 h1; first | exact CallsTo.q (show CallsTo Tryz.prog 67 [.pointer (some ⟨br, 0, none⟩)] w1 _ from c72 br aZ cZ l2 w1 (h1.holds (rrA 143 [] br aZ cZ l2) memZ)) h1 | (have hq := CallsTo.q (e10 ({ zPkt with kind := 4, to := tt, c := comV u } : Pkt) ({ zA with ca := ta, cc := tc }) w1 ((hX w1 (h1.holds (osl (.slice ta (comV u).ents.length tc) 77 6 (comV u).ents.length ((comV u).ents.flatMap Ent.cells)) memZ)).toR hpb (Nat.le_trans hpl (by omega)) hpa hpe)) h1; rw [hck] at hq; exact hq)))|((first|refine kR' ?_ ?_|refine kQ' ?_ ?_);all_goals(intro hc;try simp only[hcs]at hc;try(exfalso;first|contradiction|omega))))
          all_goals
            all_goals (
              apply DW.quiet [0, 1, 2, 3, 4]
              · decide +kernel
              · first | exact fun _ h => h | exact fun _ h => St.sub h subZ
              repeat'(first|refine yv' ?_|refine uv' ?_|refine un' ?_|(refine us' ?_ ?_;all_goals(intro hc;try simp only[hcs]at hc;try(exfalso;first|contradiction|omega)))|apply QL.nil)
              all_goals (show DW _ _ _ _ _ _ _ _))
            all_goals (
              apply DW.loud 5
              · exact rfl
              · decide +kernel
              repeat'(first|refine kg' ?_|refine kG' ?_|apply kM|refine kv' ?_|refine kK' fun _=>?_|refine kU' ?_|refine kB' fun _=>?_|refine kA' fun _=>?_|(apply addX;(iterate 2 exact rfl);(iterate 2(first|omega|(dsimp only;omega)));exact rfl))
              all_goals (refine At.stage_same (fun _ h => St.sub h subZ) ?_))
            all_goals (apply DW.done; (· decide +kernel))
            all_goals apply At.sink
            repeat'(first|refine kv' ?_|apply jJ|refine jE' ?_|refine jp' ?_|(apply jc;kernel_rfl)|refine kg' ?_|refine kG' ?_|refine kB' fun _=>?_|refine kA' fun _=>?_|refine kK' fun _=>?_|refine kU' ?_|((first|refine kR' ?_ ?_|refine kQ' ?_ ?_);all_goals(intro hc;try simp only[hcs]at hc;try(exfalso;first|contradiction|omega))))
            (apply ret2c; (· exact rfl); (· exact inferInstance); (· exact rfl); (· (repeat (first | exact List.Mem.head _ | apply List.Mem.tail))); (· exact rfl); intro w' hS)
            exact unp_zero 4 hS
        cases hck : chkP ({ zPkt with kind := 4, to := tt, c := comV u } : Pkt)
        · rw [if_pos (.inr hck)] at hr1
          subst hr1
          repeat'(first|(apply CW.reg_sink 6 (St w NoF [codR bc br 4]); (· exact rfl); (· decide +kernel))|refine kv' ?_|apply jJ|refine jE' ?_|refine jp' ?_|(apply jc;kernel_rfl)|refine kg' ?_|refine kG' ?_|refine kB' fun _=>?_|refine kA' fun _=>?_|refine kK' fun _=>?_|refine kU' ?_|(apply kq; (· exact rfl); (· intro w1 h1; first | exact CallsTo.q (show CallsTo Tryz.prog 67 [.pointer (some ⟨br, 0, none⟩)] w1 _ from c72 br aZ cZ l2 w1 (h1.holds (rrA 143 [] br aZ cZ l2) memZ)) h1 | (have hq := CallsTo.q (e10 ({ zPkt with kind := 4, to := tt, c := comV u } : Pkt) ({ zA with ca := ta, cc := tc }) w1 ((hX w1 (h1.holds (osl (.slice ta (comV u).ents.length tc) 77 6 (comV u).ents.length ((comV u).ents.flatMap Ent.cells)) memZ)).toR hpb (Nat.le_trans hpl (by omega)) hpa hpe)) h1; rw [hck] at hq; exact hq)))|((first|refine kR' ?_ ?_|refine kQ' ?_ ?_);all_goals(intro hc;try simp only[hcs]at hc;try(exfalso;first|contradiction|omega))))
          all_goals
            all_goals (
              apply DW.quiet [0, 1, 2, 3, 4]
              · decide +kernel
              · first | exact fun _ h => h | exact fun _ h => St.sub h subZ
              repeat'(first|refine yv' ?_|refine uv' ?_|refine un' ?_|(refine us' ?_ ?_;all_goals(intro hc;try simp only[hcs]at hc;try(exfalso;first|contradiction|omega)))|apply QL.nil)
              all_goals (show DW _ _ _ _ _ _ _ _))
            all_goals (
              apply DW.loud 5
              · exact rfl
              · decide +kernel
              repeat'(first|refine kg' ?_|refine kG' ?_|apply kM|refine kv' ?_|refine kK' fun _=>?_|refine kU' ?_|refine kB' fun _=>?_|refine kA' fun _=>?_|(apply addX;(iterate 2 exact rfl);(iterate 2(first|omega|(dsimp only;omega)));exact rfl))
              all_goals (refine At.stage_same (fun _ h => St.sub h subZ) ?_))
            all_goals (apply DW.done; (· decide +kernel))
            all_goals apply At.sink
            repeat'(first|refine kv' ?_|apply jJ|refine jE' ?_|refine jp' ?_|(apply jc;kernel_rfl)|refine kg' ?_|refine kG' ?_|refine kB' fun _=>?_|refine kA' fun _=>?_|refine kK' fun _=>?_|refine kU' ?_|((first|refine kR' ?_ ?_|refine kQ' ?_ ?_);all_goals(intro hc;try simp only[hcs]at hc;try(exfalso;first|contradiction|omega))))
            (apply ret2c; (· exact rfl); (· exact inferInstance); (· exact rfl); (· (repeat (first | exact List.Mem.head _ | apply List.Mem.tail))); (· exact rfl); intro w' hS)
            exact unp_zero 4 hS
        · rw [if_neg (fun h => h.elim hll (fun h => Bool.noConfusion (hck.symm.trans h)))] at hr1
          subst hr1
          repeat'(first|refine kv' ?_|apply jJ|refine jE' ?_|refine jp' ?_|(apply jc;kernel_rfl)|refine kg' ?_|refine kG' ?_|refine kB' fun _=>?_|refine kA' fun _=>?_|refine kK' fun _=>?_|refine kU' ?_|(apply kq; (· exact rfl); (· intro w1 h1; first | exact CallsTo.q (show CallsTo Tryz.prog 67 [.pointer (some ⟨br, 0, none⟩)] w1 _ from c72 br aZ cZ l2 w1 (h1.holds (rrA 143 [] br aZ cZ l2) memZ)) h1 | (have hq := CallsTo.q (e10 ({ zPkt with kind := 4, to := tt, c := comV u } : Pkt) ({ zA with ca := ta, cc := tc }) w1 ((hX w1 (h1.holds (osl (.slice ta (comV u).ents.length tc) 77 6 (comV u).ents.length ((comV u).ents.flatMap Ent.cells)) memZ)).toR hpb (Nat.le_trans hpl (by omega)) hpa hpe)) h1; rw [hck] at hq; exact hq)))|((first|refine kR' ?_ ?_|refine kQ' ?_ ?_);all_goals(intro hc;try simp only[hcs]at hc;try(exfalso;first|contradiction|omega))))
          (apply ret2c; (· exact rfl); (· exact inferInstance); (· exact rfl); (· (repeat (first | exact List.Mem.head _ | apply List.Mem.tail))); (· exact rfl); intro w' hS)
          exact ⟨{ zA with ca := ta, cc := tc }, osl (.slice ta (comV u).ents.length tc) 77 6 (comV u).ents.length ((comV u).ents.flatMap Ent.cells), rfl, (hS.sub (L' := [osl (.slice ta (comV u).ents.length tc) 77 6 (comV u).ents.length ((comV u).ents.flatMap Ent.cells)]) subZ).new1 rfl, osl.dep _ _ _ _ _, rfl, hX⟩
      · skip

        rw [if_pos he] at hr1
        subst hr1
        repeat'(first|(apply CW.reg_sink 6 (St w NoF [codR bc br e2]); (· exact rfl); (· decide +kernel))|refine kv' ?_|apply jJ|refine jE' ?_|refine jp' ?_|(apply jc;kernel_rfl)|refine kg' ?_|refine kG' ?_|refine kB' fun _=>?_|refine kA' fun _=>?_|refine kK' fun _=>?_|refine kU' ?_|((first|refine kR' ?_ ?_|refine kQ' ?_ ?_);all_goals(intro hc;try simp only[hcs]at hc;try(exfalso;first|contradiction|omega))))
        all_goals
          all_goals (
            apply DW.quiet [0, 1, 2, 3, 4]
            · decide +kernel
            · first | exact fun _ h => h | exact fun _ h => St.sub h subZ
            repeat'(first|refine yv' ?_|refine uv' ?_|refine un' ?_|(refine us' ?_ ?_;all_goals(intro hc;try simp only[hcs]at hc;try(exfalso;first|contradiction|omega)))|apply QL.nil)
            all_goals (show DW _ _ _ _ _ _ _ _))
          all_goals (
            apply DW.loud 5
            · exact rfl
            · decide +kernel
            repeat'(first|refine kg' ?_|refine kG' ?_|apply kM|refine kv' ?_|refine kK' fun _=>?_|refine kU' ?_|refine kB' fun _=>?_|refine kA' fun _=>?_|(apply addX;(iterate 2 exact rfl);(iterate 2(first|omega|(dsimp only;omega)));exact rfl))
            all_goals (refine At.stage_same (fun _ h => St.sub h subZ) ?_))
          all_goals (apply DW.done; (· decide +kernel))
          all_goals apply At.sink
          repeat'(first|refine kv' ?_|apply jJ|refine jE' ?_|refine jp' ?_|(apply jc;kernel_rfl)|refine kg' ?_|refine kG' ?_|refine kB' fun _=>?_|refine kA' fun _=>?_|refine kK' fun _=>?_|refine kU' ?_|((first|refine kR' ?_ ?_|refine kQ' ?_ ?_);all_goals(intro hc;try simp only[hcs]at hc;try(exfalso;first|contradiction|omega))))
          (apply ret2c; (· exact rfl); (· exact inferInstance); (· exact rfl); (· (repeat (first | exact List.Mem.head _ | apply List.Mem.tail))); (· exact rfl); intro w' hS)
          exact unp_zero e2 hS
    have hk5 : k = 5 := by omega
    · subst hk5
      rw [if_neg (by decide), if_neg (by decide), if_neg (by decide), if_neg (by decide), if_pos rfl] at hp
      simp only [Prod.mk.injEq] at hp
      obtain ⟨hpp, hs2⟩ := hp
      subst hpp
      repeat'(first|refine kv' ?_|apply jJ|refine jE' ?_|refine jp' ?_|(apply jc;kernel_rfl)|refine kg' ?_|refine kG' ?_|refine kB' fun _=>?_|refine kA' fun _=>?_|refine kK' fun _=>?_|refine kU' ?_|(apply LR.call (d := 64); (· exact rfl); (intro w1 h1; refine CallsTo.mono (show CallsTo Tryz.prog 62 [.pointer (some ⟨bc, 0, none⟩)] w1 _ from e62 bc br a5 c5 u w1 (h1.holds (rD bc br a5 c5 u) memZ) hok2) ?_; rintro v w2 ⟨a6, c6, rfl, st⟩; refine LR.back (St.did h1 selZ rfl st (rD_dep _ _ _ _ _)) ?_; clear st h1))|(apply LR.call (d := 68); (· exact rfl); (intro w1 h1; refine CallsTo.mono (show CallsTo Tryz.prog 62 [.pointer (some ⟨bc, 0, none⟩)] w1 _ from e62 bc br a6 c6 (gT u) w1 (h1.holds (rD bc br a6 c6 (gT u)) memZ) (okS_gT hok2)) ?_; rintro v w2 ⟨a7, c7, rfl, st⟩; refine LR.back (St.did h1 selZ rfl st (rD_dep _ _ _ _ _)) ?_; clear st h1))|(apply LR.call (d := 83); (· exact rfl); (intro w1 h1; refine CallsTo.mono (show CallsTo Tryz.prog 66 [.pointer (some ⟨bc, 0, none⟩)] w1 _ from e66 bc br a5 c5 u w1 (h1.holds (rD bc br a5 c5 u) memZ) hok2) ?_; rintro v w2 ⟨a7, c7, rfl, st⟩; refine LR.back (St.did h1 selZ rfl st (rD_dep _ _ _ _ _)) ?_; clear st h1))|((first|refine kR' ?_ ?_|refine kQ' ?_ ?_);all_goals(intro hc;try simp only[hcs]at hc;try(exfalso;first|contradiction|omega))))
      apply LR.call
      · exact rfl
      intro w1 h1
      refine CallsTo.mono (show CallsTo Tryz.prog 62 [.pointer (some ⟨bc, 0, none⟩)] w1 _ from e62 bc br a7 c7 (gT (gT u)) w1 (h1.holds (rD bc br a7 c7 (gT (gT u))) memZ) (okS_gT (okS_gT hok2))) ?_
      rintro v w2 ⟨aZ, cZ, rfl, st⟩
      rw [hs2] at st
      have h5 := ((St.did h1 (.head _ _ _) rfl st (rD_dep _ _ _ _ _)).part (Asrt.dep_own _ _) (rrA_dep _ _ _ _ _ _)).nilsl 3 1
      refine LR.back h5 ?_
      clear h1 h5 st
      by_cases he : e2 = 0
      · subst he

        have hX : ∀ w2, (osl (.slice none 0 0) 3 1 0 []).holds w2 → PktM w2 ({ zPkt with kind := 5, to := tt, b1 := gV u, b2 := gV (gT u), b3 := gV (gT (gT u)) } : Pkt) (zA) := fun w2 _ => ⟨Rd.nil _ _, fun _ => rfl, Rd.nil _ _, fun _ => rfl, Rd.nil _ _, fun _ => rfl⟩
        rw [if_neg (by simp)] at hr1
        by_cases hll : 0 < l2.length
        · rw [if_pos (.inl hll)] at hr1
          subst hr1
          have hck : chkP ({ zPkt with kind := 5, to := tt, b1 := gV u, b2 := gV (gT u), b3 := gV (gT (gT u)) } : Pkt) = chkP ({ zPkt with kind := 5, to := tt, b1 := gV u, b2 := gV (gT u), b3 := gV (gT (gT u)) } : Pkt) := rfl
          repeat'(first|(apply CW.reg_sink 6 (St w NoF [codR bc br 4]); (· exact rfl); (· decide +kernel))|refine kv' ?_|apply jJ|refine jE' ?_|refine jp' ?_|(apply jc;kernel_rfl)|refine kg' ?_|refine kG' ?_|refine kB' fun _=>?_|refine kA' fun _=>?_|refine kK' fun _=>?_|refine kU' ?_|(apply kq; (· exact rfl); (· intro w1 h1; first | exact CallsTo.q (show CallsTo Tryz.prog 67 [.pointer (some ⟨br, 0, none⟩)] w1 _ from c72 br aZ cZ l2 w1 (h1.holds (rrA 143 [] br aZ cZ l2) memZ)) h1 | (have hq := CallsTo.q (e10 ({ zPkt with kind := 5, to := tt, b1 := gV u, b2 := gV (gT u), b3 := gV (gT (gT u)) } : Pkt) (zA) w1 ((hX w1 (h1.holds (osl (.slice none 0 0) 3 1 0 []) memZ)).toR hpb (Nat.le_trans hpl (by omega)) hpa hpe)) h1; rw [hck] at hq; exact hq)))|((first|refine kR' ?_ ?_|refine kQ' ?_ ?_);all_goals(intro hc;try simp only[hcs]at hc;try(exfalso;first|contradiction|omega))))
          all_goals
            all_goals (
              apply DW.quiet [0, 1, 2, 3, 4]
              · decide +kernel
              · first | exact fun _ h => h | exact fun _ h => St.sub h subZ
              repeat'(first|refine yv' ?_|refine uv' ?_|refine un' ?_|(refine us' ?_ ?_;all_goals(intro hc;try simp only[hcs]at hc;try(exfalso;first|contradiction|omega)))|apply QL.nil)
              all_goals (show DW _ _ _ _ _ _ _ _))
            all_goals (
              apply DW.loud 5
              · exact rfl
              · decide +kernel
              repeat'(first|refine kg' ?_|refine kG' ?_|apply kM|refine kv' ?_|refine kK' fun _=>?_|refine kU' ?_|refine kB' fun _=>?_|refine kA' fun _=>?_|(apply addX;(iterate 2 exact rfl);(iterate 2(first|omega|(dsimp only;omega)));exact rfl))
              all_goals (refine At.stage_same (fun _ h => St.sub h subZ) ?_))
            all_goals (apply DW.done; (· decide +kernel))
            all_goals apply At.sink
            repeat'(first|refine kv' ?_|apply jJ|refine jE' ?_|refine jp' ?_|(apply jc;kernel_rfl)|refine kg' ?_|refine kG' ?_|refine kB' fun _=>?_|refine kA' fun _=>?_|refine kK' fun _=>?_|refine kU' ?_|((first|refine kR' ?_ ?_|refine kQ' ?_ ?_);all_goals(intro hc;try simp only[hcs]at hc;try(exfalso;first|contradiction|omega))))
            (apply ret2c; (· exact rfl); (· exact inferInstance); (· exact rfl); (· (repeat (first | exact List.Mem.head _ | apply List.Mem.tail))); (· exact rfl); intro w' hS)
            exact unp_zero 4 hS
        cases hck : chkP ({ zPkt with kind := 5, to := tt, b1 := gV u, b2 := gV (gT u), b3 := gV (gT (gT u)) } : Pkt)
        · rw [if_pos (.inr hck)] at hr1
          subst hr1
          repeat'(first|(apply CW.reg_sink 6 (St w NoF [codR bc br 4]); (· exact rfl); (· decide +kernel))|refine kv' ?_|apply jJ|refine jE' ?_|refine jp' ?_|(apply jc;kernel_rfl)|refine kg' ?_|refine kG' ?_|refine kB' fun _=>?_|refine kA' fun _=>?_|refine kK' fun _=>?_|refine kU' ?_|(apply kq; (· exact rfl); (· intro w1 h1; first | exact CallsTo.q (show CallsTo Tryz.prog 67 [.pointer (some ⟨br, 0, none⟩)] w1 _ from c72 br aZ cZ l2 w1 (h1.holds (rrA 143 [] br aZ cZ l2) memZ)) h1 | (have hq := CallsTo.q (e10 ({ zPkt with kind := 5, to := tt, b1 := gV u, b2 := gV (gT u), b3 := gV (gT (gT u)) } : Pkt) (zA) w1 ((hX w1 (h1.holds (osl (.slice none 0 0) 3 1 0 []) memZ)).toR hpb (Nat.le_trans hpl (by omega)) hpa hpe)) h1; rw [hck] at hq; exact hq)))|((first|refine kR' ?_ ?_|refine kQ' ?_ ?_);all_goals(intro hc;try simp only[hcs]at hc;try(exfalso;first|contradiction|omega))))
          all_goals
            all_goals (
              apply DW.quiet [0, 1, 2, 3, 4]
              · decide +kernel
              · first | exact fun _ h => h | exact fun _ h => St.sub h subZ
              repeat'(first|refine yv' ?_|refine uv' ?_|refine un' ?_|(refine us' ?_ ?_;all_goals(intro hc;try simp only[hcs]at hc;try(exfalso;first|contradiction|omega)))|apply QL.nil)
              all_goals (show DW _ _ _ _ _ _ _ _))
            all_goals (
              apply DW.loud 5
              · exact rfl
              · decide +kernel
              repeat'(first|refine kg' ?_|refine kG' ?_|apply kM|refine kv' ?_|refine kK' fun _=>?_|refine kU' ?_|refine kB' fun _=>?_|refine kA' fun _=>?_|(apply addX;(iterate 2 exact rfl);(iterate 2(first|omega|(dsimp only;omega)));exact rfl))
              all_goals (refine At.stage_same (fun _ h => St.sub h subZ) ?_))
            all_goals (apply DW.done; (· decide +kernel))
            all_goals apply At.sink
            repeat'(first|refine kv' ?_|apply jJ|refine jE' ?_|refine jp' ?_|(apply jc;kernel_rfl)|refine kg' ?_|refine kG' ?_|refine kB' fun _=>?_|refine kA' fun _=>?_|refine kK' fun _=>?_|refine kU' ?_|((first|refine kR' ?_ ?_|refine kQ' ?_ ?_);all_goals(intro hc;try simp only[hcs]at hc;try(exfalso;first|contradiction|omega))))
            (apply ret2c; (· exact rfl); (· exact inferInstance); (· exact rfl); (· (repeat (first | exact List.Mem.head _ | apply List.Mem.tail))); (· exact rfl); intro w' hS)
            exact unp_zero 4 hS
        · rw [if_neg (fun h => h.elim hll (fun h => Bool.noConfusion (hck.symm.trans h)))] at hr1
          subst hr1
          repeat'(first|refine kv' ?_|apply jJ|refine jE' ?_|refine jp' ?_|(apply jc;kernel_rfl)|refine kg' ?_|refine kG' ?_|refine kB' fun _=>?_|refine kA' fun _=>?_|refine kK' fun _=>?_|refine kU' ?_|(apply kq; (· exact rfl); (· intro w1 h1; first | exact CallsTo.q (show CallsTo Tryz.prog 67 [.pointer (some ⟨br, 0, none⟩)] w1 _ from c72 br aZ cZ l2 w1 (h1.holds (rrA 143 [] br aZ cZ l2) memZ)) h1 | (have hq := CallsTo.q (e10 ({ zPkt with kind := 5, to := tt, b1 := gV u, b2 := gV (gT u), b3 := gV (gT (gT u)) } : Pkt) (zA) w1 ((hX w1 (h1.holds (osl (.slice none 0 0) 3 1 0 []) memZ)).toR hpb (Nat.le_trans hpl (by omega)) hpa hpe)) h1; rw [hck] at hq; exact hq)))|((first|refine kR' ?_ ?_|refine kQ' ?_ ?_);all_goals(intro hc;try simp only[hcs]at hc;try(exfalso;first|contradiction|omega))))
          (apply ret2c; (· exact rfl); (· exact inferInstance); (· exact rfl); (· (repeat (first | exact List.Mem.head _ | apply List.Mem.tail))); (· exact rfl); intro w' hS)
          exact ⟨zA, osl (.slice none 0 0) 3 1 0 [], rfl, (hS.sub (L' := [osl (.slice none 0 0) 3 1 0 []]) subZ).new1 rfl, osl.dep _ _ _ _ _, rfl, hX⟩
      · skip

        rw [if_pos he] at hr1
        subst hr1
        repeat'(first|(apply CW.reg_sink 6 (St w NoF [codR bc br e2]); (· exact rfl); (· decide +kernel))|refine kv' ?_|apply jJ|refine jE' ?_|refine jp' ?_|(apply jc;kernel_rfl)|refine kg' ?_|refine kG' ?_|refine kB' fun _=>?_|refine kA' fun _=>?_|refine kK' fun _=>?_|refine kU' ?_|((first|refine kR' ?_ ?_|refine kQ' ?_ ?_);all_goals(intro hc;try simp only[hcs]at hc;try(exfalso;first|contradiction|omega))))
        all_goals
          all_goals (
            apply DW.quiet [0, 1, 2, 3, 4]
            · decide +kernel
            · first | exact fun _ h => h | exact fun _ h => St.sub h subZ
            repeat'(first|refine yv' ?_|refine uv' ?_|refine un' ?_|(refine us' ?_ ?_;all_goals(intro hc;try simp only[hcs]at hc;try(exfalso;first|contradiction|omega)))|apply QL.nil)
            all_goals (show DW _ _ _ _ _ _ _ _))
          all_goals (
            apply DW.loud 5
            · exact rfl
            · decide +kernel
            repeat'(first|refine kg' ?_|refine kG' ?_|apply kM|refine kv' ?_|refine kK' fun _=>?_|refine kU' ?_|refine kB' fun _=>?_|refine kA' fun _=>?_|(apply addX;(iterate 2 exact rfl);(iterate 2(first|omega|(dsimp only;omega)));exact rfl))
            all_goals (refine At.stage_same (fun _ h => St.sub h subZ) ?_))
          all_goals (apply DW.done; (· decide +kernel))
          all_goals apply At.sink
          repeat'(first|refine kv' ?_|apply jJ|refine jE' ?_|refine jp' ?_|(apply jc;kernel_rfl)|refine kg' ?_|refine kG' ?_|refine kB' fun _=>?_|refine kA' fun _=>?_|refine kK' fun _=>?_|refine kU' ?_|((first|refine kR' ?_ ?_|refine kQ' ?_ ?_);all_goals(intro hc;try simp only[hcs]at hc;try(exfalso;first|contradiction|omega))))
          (apply ret2c; (· exact rfl); (· exact inferInstance); (· exact rfl); (· (repeat (first | exact List.Mem.head _ | apply List.Mem.tail))); (· exact rfl); intro w' hS)
          exact unp_zero e2 hS
  · have hk0 := hke he1
    subst hk0
    have g1 : gV (l1, e1) = 0 := gV_err he1
    have g2 : gT (l1, e1) = (l1, e1) := gT_err he1
    rw [g1, g2] at hp
    unfold parseK at hp
    rw [if_neg (by decide), if_neg (by decide), if_neg (by decide), if_neg (by decide), if_neg (by decide)] at hp
    simp only [Prod.mk.injEq] at hp
    obtain ⟨hpp, rfl, rfl⟩ := hp
    rw [if_pos he1] at hr1
    subst hr1
    repeat'(first|(apply kA (d := 7);exact rfl;intro bp)|refine kv' ?_|apply jJ|refine jE' ?_|refine jp' ?_|(apply jc;kernel_rfl)|refine kg' ?_|refine kG' ?_|refine kB' fun _=>?_|refine kA' fun _=>?_|refine kK' fun _=>?_|refine kU' ?_|((first|refine kR' ?_ ?_|refine kQ' ?_ ?_);all_goals(intro hc;try simp only[hcs]at hc;try(exfalso;first|contradiction|omega))))
    apply LR.call
    · exact rfl
    intro w1 h1
    have h2 := St.join (x := codR bc br e1) (St.up2 (St.up2 h1)) rfl rfl
    refine CallsTo.mono (show CallsTo Tryz.prog 62 [.pointer (some ⟨bc, 0, none⟩)] w1 _ from e62 bc br a4 c4 (l1, e1) w1 (h2.holds (rD bc br a4 c4 (l1, e1)) (mH _ _)) hok1) ?_
    rintro v w2 ⟨a5, c5, rfl, st⟩
    rw [g1, g2] at *
    have h5 := (St.did h2 (.head _ _ _) rfl st (rD_dep _ _ _ _ _)).part (Asrt.dep_own _ _) (rrA_dep _ _ _ _ _ _)
    refine LR.back h5 ?_
    clear h1 h2 h5 st
    repeat'(first|(apply CW.reg_sink 6 (St w NoF [codR bc br e1]); (· exact rfl); (· decide +kernel))|refine kv' ?_|apply jJ|refine jE' ?_|refine jp' ?_|(apply jc;kernel_rfl)|refine kg' ?_|refine kG' ?_|refine kB' fun _=>?_|refine kA' fun _=>?_|refine kK' fun _=>?_|refine kU' ?_|((first|refine kR' ?_ ?_|refine kQ' ?_ ?_);all_goals(intro hc;try simp only[hcs]at hc;try(exfalso;first|contradiction|omega))))
    all_goals
      all_goals (
        apply DW.quiet [0, 1, 2, 3, 4]
        · decide +kernel
        · first | exact fun _ h => h | exact fun _ h => St.sub h subZ
        repeat'(first|refine yv' ?_|refine uv' ?_|refine un' ?_|(refine us' ?_ ?_;all_goals(intro hc;try simp only[hcs]at hc;try(exfalso;first|contradiction|omega)))|apply QL.nil)
        all_goals (show DW _ _ _ _ _ _ _ _))
      all_goals (
        apply DW.loud 5
        · exact rfl
        · decide +kernel
        repeat'(first|refine kg' ?_|refine kG' ?_|apply kM|refine kv' ?_|refine kK' fun _=>?_|refine kU' ?_|refine kB' fun _=>?_|refine kA' fun _=>?_|(apply addX;(iterate 2 exact rfl);(iterate 2(first|omega|(dsimp only;omega)));exact rfl))
        all_goals (refine At.stage_same (fun _ h => St.sub h subZ) ?_))
      all_goals (apply DW.done; (· decide +kernel))
      all_goals apply At.sink
      repeat'(first|refine kv' ?_|apply jJ|refine jE' ?_|refine jp' ?_|(apply jc;kernel_rfl)|refine kg' ?_|refine kG' ?_|refine kB' fun _=>?_|refine kA' fun _=>?_|refine kK' fun _=>?_|refine kU' ?_|((first|refine kR' ?_ ?_|refine kQ' ?_ ?_);all_goals(intro hc;try simp only[hcs]at hc;try(exfalso;first|contradiction|omega))))
      (apply ret2c; (· exact rfl); (· exact inferInstance); (· exact rfl); (· (repeat (first | exact List.Mem.head _ | apply List.Mem.tail))); (· exact rfl); intro w' hS)
      exact unp_zero e1 hS
end Go.Proofs.YtkolmkdbjagfcaaGreat

namespace Go.Proofs.YtkolmkdbjagfcaaGreat
open Go.Hb
attribute [local irreducible] LR CW At Ev thn blk finK noG again CallsTo DW QL dnext TW DP
set_option maxRecDepth 100000

theorem PktM.toR2 {w w0 : World} {p : Pkt} {A B : PAd} (h : PktM w p A) (hR : PktR w0 p B) : PktR w p A :=
  ⟨h.hd, h.hdz, hR.hdb, hR.hdm, h.ht, h.htz, hR.htm, h.hc, h.hcz, hR.hcm⟩
set_option maxHeartbeats 16000000 in
theorem e3 (p : Pkt) (A : PAd) (w : World) (hR : PktR w p A) (hI : PktI p) : CallsTo Tryz.prog 3 [p.val A] w fun v w' => v = .bool true ∧ Grew w w' := by
  refine go_in (n := 43) (St.refl _ NoF) Tryz.func3 rfl rfl ?_
  repeat'(first|(apply kB;(iterate 2 exact rfl);intro b1)|refine kv' ?_|apply jJ|refine jE' ?_|refine jp' ?_|(apply jc;kernel_rfl)|refine kg' ?_|refine kG' ?_|refine kB' fun _=>?_|refine kA' fun _=>?_|refine kK' fun _=>?_|refine kU' ?_|((first|refine kR' ?_ ?_|refine kQ' ?_ ?_);all_goals(intro hc;try simp only[hcs]at hc;try(exfalso;first|contradiction|omega))))
  apply LR.call
  · exact rfl
  intro w1 h1
  refine CallsTo.mono (show CallsTo Tryz.prog 6 [p.val A] w1 _ from e6 p A w1 (hR.old h1)) ?_
  rintro v w2 ⟨A2, X, rfl, hn, hXd, hXe, hX⟩
  refine LR.back (h1.got hn hXd) ?_
  clear hn h1
  obtain ⟨L, hL⟩ : ∃ L, (packP p).1 = L := ⟨_, rfl⟩
  have h7 : ∀ (B : PAd) (w1 : World), PktR w1 p B → CallsTo Tryz.prog 7 [p.val B] w1 (fun v w' => ∃ a' c', v = .tuple [.slice a' L.length c', .int .i64 (packP p).2].toArray ∧ NewSl w1 w' (.slice a' L.length c') 5 1 L.length (bv L)) := fun B w1 hB => by
    have hq := p30 p B w1 hB hI
    rw [hL] at hq
    exact hq
  have h8 : ∀ (B : PAd) (w1 : World), PktR w1 p B → CallsTo Tryz.prog 8 [p.val B] w1 (fun v w' => ∃ a' c', v = .tuple [.slice a' L.length c', .int .i64 (packP p).2].toArray ∧ NewSl w1 w' (.slice a' L.length c') 5 1 L.length (bv L)) := fun B w1 hB => by
    have hq := e8 p B w1 hB
    rw [hL] at hq
    exact hq
  have hLl : L.length ≤ 100000 := by
    rw [← hL]
    unfold packP
    split
    · rename_i hck
      have := body_len (chk_may hck).1
      simp only [sealL_len]
      omega
    · simp
  repeat'(first|refine kv' ?_|apply jJ|refine jE' ?_|refine jp' ?_|(apply jc;kernel_rfl)|refine kg' ?_|refine kG' ?_|refine kB' fun _=>?_|refine kA' fun _=>?_|refine kK' fun _=>?_|refine kU' ?_|((first|refine kR' ?_ ?_|refine kQ' ?_ ?_);all_goals(intro hc;try simp only[hcs]at hc;try(exfalso;first|contradiction|omega))))
  apply LR.call
  · exact rfl
  intro w1 h1
  refine CallsTo.mono (h7 A2 w1 ((hX w1 (h1.holds X memZ)).toR2 hR)) ?_
  rintro v w2 ⟨a3, c3, rfl, hn⟩
  refine LR.back (h1.newSl hn) ?_
  clear hn h1
  repeat'(first|refine kv' ?_|apply jJ|refine jE' ?_|refine jp' ?_|(apply jc;kernel_rfl)|refine kg' ?_|refine kG' ?_|refine kB' fun _=>?_|refine kA' fun _=>?_|refine kK' fun _=>?_|refine kU' ?_|((first|refine kR' ?_ ?_|refine kQ' ?_ ?_);all_goals(intro hc;try simp only[hcs]at hc;try(exfalso;first|contradiction|omega))))
  apply LR.call
  · exact rfl
  intro w1 h1
  refine CallsTo.mono (h8 A w1 (hR.old h1)) ?_
  rintro v w2 ⟨a4, c4, rfl, hn⟩
  refine LR.back (h1.newSl hn) ?_
  clear hn h1
  repeat'(first|(apply CW.reg_heldC)|refine kv' ?_|apply jJ|refine jE' ?_|refine jp' ?_|(apply jc;kernel_rfl)|refine kg' ?_|refine kG' ?_|refine kB' fun _=>?_|refine kA' fun _=>?_|refine kK' fun _=>?_|refine kU' ?_|((first|refine kR' ?_ ?_|refine kQ' ?_ ?_);all_goals(intro hc;try simp only[hcs]at hc;try(exfalso;first|contradiction|omega))))
  all_goals (
    apply DW.quiet [0, 2]
    · decide +kernel
    · first | exact fun _ h => h | exact fun _ h => St.sub h subZ
    repeat'(first|refine yv' ?_|refine uv' ?_|refine un' ?_|(refine us' ?_ ?_;all_goals(intro hc;try simp only[hcs]at hc;try(exfalso;first|contradiction|omega)))|apply QL.nil)
    all_goals (show DW _ _ _ _ _ _ _ _))
  all_goals (
    apply DW.loud 1
    · exact rfl
    · decide +kernel
    repeat'(first|refine kg' ?_|refine kG' ?_|apply kM|refine kv' ?_|refine kK' fun _=>?_|refine kU' ?_|refine kB' fun _=>?_|refine kA' fun _=>?_|(apply kq; (· exact rfl); (· intro w1 h1; first | exact CallsTo.q (show CallsTo Tryz.prog 9 [p.val A2] w1 _ from p31 p A2 w1 ((hX w1 (h1.holds X memZ)).toR2 hR) hI) h1 | exact CallsTo.q (show CallsTo Tryz.prog 10 [p.val A] w1 _ from e10 p A w1 (hR.old h1)) h1 | (have hq := CallsTo.q (show CallsTo Tryz.prog 11 [.slice a3 L.length c3, .slice a4 L.length c4] w1 _ from c19 a3 a4 c3 c4 L L w1 (ownsRow_rd (h1.holds (osl (.slice a3 L.length c3) 5 1 L.length (bv L)) memZ)) (ownsRow_rd (h1.holds (osl (.slice a4 L.length c4) 5 1 L.length (bv L)) memZ)) (by omega)) h1; rw [decide_eq_true rfl] at hq; exact hq) | (have hq := CallsTo.q (show CallsTo Tryz.prog 12 [p.val A2, p.val A] w1 _ from e12 p p A2 A w1 (((hX w1 (h1.holds X memZ)).toR2 hR).toS) (hR.old h1).toS) h1; rw [sameP_self] at hq; exact hq) | exact CallsTo.q (p29 w1) h1)))
    all_goals (refine At.stage_same (fun _ h => St.sub h subZ) ?_))
  all_goals (
    apply DW.loud 3
    · exact rfl
    · decide +kernel
    repeat'(first|refine kg' ?_|refine kG' ?_|apply kM|refine kv' ?_|refine kK' fun _=>?_|refine kU' ?_|refine kB' fun _=>?_|refine kA' fun _=>?_|(apply kq; (· exact rfl); (· intro w1 h1; first | exact CallsTo.q (show CallsTo Tryz.prog 9 [p.val A2] w1 _ from p31 p A2 w1 ((hX w1 (h1.holds X memZ)).toR2 hR) hI) h1 | exact CallsTo.q (show CallsTo Tryz.prog 10 [p.val A] w1 _ from e10 p A w1 (hR.old h1)) h1 | (have hq := CallsTo.q (show CallsTo Tryz.prog 11 [.slice a3 L.length c3, .slice a4 L.length c4] w1 _ from c19 a3 a4 c3 c4 L L w1 (ownsRow_rd (h1.holds (osl (.slice a3 L.length c3) 5 1 L.length (bv L)) memZ)) (ownsRow_rd (h1.holds (osl (.slice a4 L.length c4) 5 1 L.length (bv L)) memZ)) (by omega)) h1; rw [decide_eq_true rfl] at hq; exact hq) | (have hq := CallsTo.q (show CallsTo Tryz.prog 12 [p.val A2, p.val A] w1 _ from e12 p p A2 A w1 (((hX w1 (h1.holds X memZ)).toR2 hR).toS) (hR.old h1).toS) h1; rw [sameP_self] at hq; exact hq) | exact CallsTo.q (p29 w1) h1)))
    all_goals (refine At.stage_same (fun _ h => St.sub h subZ) ?_))
  all_goals (
    apply DW.quiet [4, 5, 6, 7, 8, 9, 10, 11, 12]
    · decide +kernel
    · first | exact fun _ h => h | exact fun _ h => St.sub h subZ
    repeat'(first|refine yv' ?_|refine uv' ?_|refine un' ?_|(refine us' ?_ ?_;all_goals(intro hc;try simp only[hcs]at hc;try(exfalso;first|contradiction|omega)))|apply QL.nil)
    all_goals (show DW _ _ _ _ _ _ _ _))
  all_goals (
    apply DW.loud 13
    · exact rfl
    · decide +kernel
    repeat'(first|refine kg' ?_|refine kG' ?_|apply kM|refine kv' ?_|refine kK' fun _=>?_|refine kU' ?_|refine kB' fun _=>?_|refine kA' fun _=>?_|(apply kq; (· exact rfl); (· intro w1 h1; first | exact CallsTo.q (show CallsTo Tryz.prog 9 [p.val A2] w1 _ from p31 p A2 w1 ((hX w1 (h1.holds X memZ)).toR2 hR) hI) h1 | exact CallsTo.q (show CallsTo Tryz.prog 10 [p.val A] w1 _ from e10 p A w1 (hR.old h1)) h1 | (have hq := CallsTo.q (show CallsTo Tryz.prog 11 [.slice a3 L.length c3, .slice a4 L.length c4] w1 _ from c19 a3 a4 c3 c4 L L w1 (ownsRow_rd (h1.holds (osl (.slice a3 L.length c3) 5 1 L.length (bv L)) memZ)) (ownsRow_rd (h1.holds (osl (.slice a4 L.length c4) 5 1 L.length (bv L)) memZ)) (by omega)) h1; rw [decide_eq_true rfl] at hq; exact hq) | (have hq := CallsTo.q (show CallsTo Tryz.prog 12 [p.val A2, p.val A] w1 _ from e12 p p A2 A w1 (((hX w1 (h1.holds X memZ)).toR2 hR).toS) (hR.old h1).toS) h1; rw [sameP_self] at hq; exact hq) | exact CallsTo.q (p29 w1) h1)))
    all_goals (refine At.stage_same (fun _ h => St.sub h subZ) ?_))
  all_goals (
    apply DW.quiet [14, 15, 16, 17]
    · decide +kernel
    · first | exact fun _ h => h | exact fun _ h => St.sub h subZ
    repeat'(first|refine yv' ?_|refine uv' ?_|refine un' ?_|(refine us' ?_ ?_;all_goals(intro hc;try simp only[hcs]at hc;try(exfalso;first|contradiction|omega)))|apply QL.nil)
    all_goals (show DW _ _ _ _ _ _ _ _))
  all_goals (
    apply DW.loud 18
    · exact rfl
    · decide +kernel
    repeat'(first|refine kg' ?_|refine kG' ?_|apply kM|refine kv' ?_|refine kK' fun _=>?_|refine kU' ?_|refine kB' fun _=>?_|refine kA' fun _=>?_|(apply kq; (· exact rfl); (· intro w1 h1; first | exact CallsTo.q (show CallsTo Tryz.prog 9 [p.val A2] w1 _ from p31 p A2 w1 ((hX w1 (h1.holds X memZ)).toR2 hR) hI) h1 | exact CallsTo.q (show CallsTo Tryz.prog 10 [p.val A] w1 _ from e10 p A w1 (hR.old h1)) h1 | (have hq := CallsTo.q (show CallsTo Tryz.prog 11 [.slice a3 L.length c3, .slice a4 L.length c4] w1 _ from c19 a3 a4 c3 c4 L L w1 (ownsRow_rd (h1.holds (osl (.slice a3 L.length c3) 5 1 L.length (bv L)) memZ)) (ownsRow_rd (h1.holds (osl (.slice a4 L.length c4) 5 1 L.length (bv L)) memZ)) (by omega)) h1; rw [decide_eq_true rfl] at hq; exact hq) | (have hq := CallsTo.q (show CallsTo Tryz.prog 12 [p.val A2, p.val A] w1 _ from e12 p p A2 A w1 (((hX w1 (h1.holds X memZ)).toR2 hR).toS) (hR.old h1).toS) h1; rw [sameP_self] at hq; exact hq) | exact CallsTo.q (p29 w1) h1)))
    all_goals (refine At.stage_same (fun _ h => St.sub h subZ) ?_))
  all_goals (
    apply DW.quiet [19, 20]
    · decide +kernel
    · first | exact fun _ h => h | exact fun _ h => St.sub h subZ
    repeat'(first|refine yv' ?_|refine uv' ?_|refine un' ?_|(refine us' ?_ ?_;all_goals(intro hc;try simp only[hcs]at hc;try(exfalso;first|contradiction|omega)))|apply QL.nil)
    all_goals (show DW _ _ _ _ _ _ _ _))
  all_goals (
    apply DW.loud 21
    · exact rfl
    · decide +kernel
    repeat'(first|refine kg' ?_|refine kG' ?_|apply kM|refine kv' ?_|refine kK' fun _=>?_|refine kU' ?_|refine kB' fun _=>?_|refine kA' fun _=>?_|(apply kq; (· exact rfl); (· intro w1 h1; first | exact CallsTo.q (show CallsTo Tryz.prog 9 [p.val A2] w1 _ from p31 p A2 w1 ((hX w1 (h1.holds X memZ)).toR2 hR) hI) h1 | exact CallsTo.q (show CallsTo Tryz.prog 10 [p.val A] w1 _ from e10 p A w1 (hR.old h1)) h1 | (have hq := CallsTo.q (show CallsTo Tryz.prog 11 [.slice a3 L.length c3, .slice a4 L.length c4] w1 _ from c19 a3 a4 c3 c4 L L w1 (ownsRow_rd (h1.holds (osl (.slice a3 L.length c3) 5 1 L.length (bv L)) memZ)) (ownsRow_rd (h1.holds (osl (.slice a4 L.length c4) 5 1 L.length (bv L)) memZ)) (by omega)) h1; rw [decide_eq_true rfl] at hq; exact hq) | (have hq := CallsTo.q (show CallsTo Tryz.prog 12 [p.val A2, p.val A] w1 _ from e12 p p A2 A w1 (((hX w1 (h1.holds X memZ)).toR2 hR).toS) (hR.old h1).toS) h1; rw [sameP_self] at hq; exact hq) | exact CallsTo.q (p29 w1) h1)))
    all_goals (refine At.stage_same (fun _ h => St.sub h subZ) ?_))
  all_goals (
    apply DW.quiet [22, 23]
    · decide +kernel
    · first | exact fun _ h => h | exact fun _ h => St.sub h subZ
    repeat'(first|refine yv' ?_|refine uv' ?_|refine un' ?_|(refine us' ?_ ?_;all_goals(intro hc;try simp only[hcs]at hc;try(exfalso;first|contradiction|omega)))|apply QL.nil)
    all_goals (show DW _ _ _ _ _ _ _ _))
  all_goals (first | (apply DW.done_thn; (· decide +kernel)) | (apply DW.done; (· decide +kernel)))
  repeat'(first|refine kv' ?_|apply jJ|refine jE' ?_|refine jp' ?_|(apply jc;kernel_rfl)|refine kg' ?_|refine kG' ?_|refine kB' fun _=>?_|refine kA' fun _=>?_|refine kK' fun _=>?_|refine kU' ?_|((first|refine kR' ?_ ?_|refine kQ' ?_ ?_);all_goals(intro hc;try simp only[hcs]at hc;try(exfalso;first|contradiction|omega))))
  all_goals try (exfalso; revert hc; simp; done)
  (apply ret1; (· exact rfl); intro w' hS)
  exact ⟨rfl, hS.toKeep⟩
theorem PktM.toS {w : World} {p : Pkt} {A : PAd} (h : PktM w p A) (h1 : p.d.msg.body.length ≤ 140737488351232) (h2 : p.t.ask.length ≤ 16) (h3 : p.c.ents.length ≤ 8) : PktS w p A := ⟨h.hd, by omega, h.ht, by omega, h.hc, by omega⟩
set_option maxHeartbeats 16000000 in
theorem e4 (a : Option Addr) (c : Nat) (l : List Int) (w : World) (hr : Rd w a (bv l)) (hb : Byt l) (hz : a = none → c = 0) (hcap : l.length ≤ c) (hm : l.length ≤ 140737488351232) : CallsTo Tryz.prog 4 [.slice a l.length c] w fun v w' => v = .bool true ∧ Grew w w' := by
  refine go_in (n := 65) (St.rd1 hr) Tryz.func4 rfl rfl ?_
  have hf := unp_facts hb
  obtain ⟨⟨p, e⟩, hp⟩ : ∃ r, unpackP l = r := ⟨_, rfl⟩
  rw [hp] at hf
  simp only at hf
  obtain ⟨hpb, hpl, hpa, hpe, hpi⟩ := hf
  repeat'(first|refine kv' ?_|apply jJ|refine jE' ?_|refine jp' ?_|(apply jc;kernel_rfl)|refine kg' ?_|refine kG' ?_|refine kB' fun _=>?_|refine kA' fun _=>?_|refine kK' fun _=>?_|refine kU' ?_|((first|refine kR' ?_ ?_|refine kQ' ?_ ?_);all_goals(intro hc;try simp only[hcs]at hc;try(exfalso;first|contradiction|omega))))
  apply LR.call
  · exact rfl
  intro w1 h1
  refine CallsTo.mono (show CallsTo Tryz.prog 14 [.slice a l.length c] w1 _ from c22 a c l w1 (h1.rd_of memZ) hz (by omega)) ?_
  rintro v w2 ⟨a1, c1, rfl, hn⟩
  have ca1 := ownsRow_cap hn.own
  refine LR.back (h1.newSl hn) ?_
  clear hn h1
  repeat'(first|refine kv' ?_|apply jJ|refine jE' ?_|refine jp' ?_|(apply jc;kernel_rfl)|refine kg' ?_|refine kG' ?_|refine kB' fun _=>?_|refine kA' fun _=>?_|refine kK' fun _=>?_|refine kU' ?_|((first|refine kR' ?_ ?_|refine kQ' ?_ ?_);all_goals(intro hc;try simp only[hcs]at hc;try(exfalso;first|contradiction|omega))))
  apply LR.call
  · exact rfl
  intro w1 h1
  refine CallsTo.mono (show CallsTo Tryz.prog 15 [.slice a1 l.length c1] w1 _ from p32q a1 c1 l w1 (h1.rd_of_own memZ) hb (fun e => (ownsRow_some h1.g0 e).2) ca1 (by omega)) ?_
  rw [hp]
  rintro v w2 ⟨A, X, hv, hn, hXd, hXe, hX, hXb⟩
  replace hv : v = .tuple [p.val A, .int .i64 e].toArray := hv
  subst hv
  replace hX : ∀ w2, X.holds w2 → PktM w2 p A := hX
  replace hXb : BodX X p A := hXb
  refine LR.back (h1.got hn hXd) ?_
  clear hn h1
  repeat'(first|(apply kA (d := 4);exact rfl;intro b4)|refine kv' ?_|apply jJ|refine jE' ?_|refine jp' ?_|(apply jc;kernel_rfl)|refine kg' ?_|refine kG' ?_|refine kB' fun _=>?_|refine kA' fun _=>?_|refine kK' fun _=>?_|refine kU' ?_|((first|refine kR' ?_ ?_|refine kQ' ?_ ?_);all_goals(intro hc;try simp only[hcs]at hc;try(exfalso;first|contradiction|omega))))
  apply LR.call
  · exact rfl
  intro w1 h1
  refine CallsTo.mono (show CallsTo Tryz.prog 16 [.slice a l.length c] w1 _ from e16 a c l w1 (h1.rd_of memZ) hb hz hcap (by omega)) ?_
  rw [hp]
  rintro v w2 ⟨B, Y, hv, hn, hYd, hYe, hY⟩
  replace hv : v = .tuple [p.val B, .int .i64 e].toArray := hv
  subst hv
  replace hY : ∀ w2, Y.holds w2 → PktM w2 p B := hY
  refine LR.back (h1.got hn hYd) ?_
  clear hn h1
  repeat'(first|(apply kA (d := 6);exact rfl;intro b6)|refine kv' ?_|apply jJ|refine jE' ?_|refine jp' ?_|(apply jc;kernel_rfl)|refine kg' ?_|refine kG' ?_|refine kB' fun _=>?_|refine kA' fun _=>?_|refine kK' fun _=>?_|refine kU' ?_|(apply kq; (· exact rfl); (· intro w1 h1; first | (have hq := CallsTo.q (show CallsTo Tryz.prog 12 [p.val A, p.val B] w1 _ from e12 p p A B w1 ((hX w1 (h1.holds X memZ)).toS hpl hpa hpe) ((hY w1 (h1.holds Y memZ)).toS hpl hpa hpe)) h1; rw [sameP_self] at hq; exact hq) | (have hq := CallsTo.q (show CallsTo Tryz.prog 11 [.slice a1 l.length c1, .slice a l.length c] w1 _ from c19 a1 a c1 c l l w1 (ownsRow_rd (h1.holds (osl (.slice a1 l.length c1) 5 1 l.length (bv l)) memZ)) (h1.rd_of (a := a) (xs := bv l) memZ) (by omega)) h1; rw [decide_eq_true rfl] at hq; exact hq)))|((first|refine kR' ?_ ?_|refine kQ' ?_ ?_);all_goals(intro hc;try simp only[hcs]at hc;try(exfalso;first|contradiction|omega))))
  by_cases hb0 : p.d.msg.body = []
  · apply CW.loop [8, 36, 37, 38, 39, 40, 41, 42, 43, 44, 45, 46, 47, 48, 49, 50, 51, 52, 53, 54, 55, 56, 57, 58] (fun _ : Unit => True) (fun _ => [(8, Value.int .i64 0)])
      (fun _ => St w NoF [.own b4 (.cells (p.cells A).toArray 42 (0, 0)), osl (.slice a1 l.length c1) 5 1 l.length (bv l), rdA a (bv l)]) (fun _ => 0)
    · exact fun w' hw' => ⟨(), trivial, ⟨rfl, trivial⟩, hw'.sub subZ⟩
    intro _ g _
    have hl0 : (p.d.msg.body.length : Int) = 0 := by rw [hb0]; rfl
    repeat'(first|refine kv' ?_|apply jJ|refine jE' ?_|refine jp' ?_|(apply jc;kernel_rfl)|refine kg' ?_|refine kG' ?_|refine kB' fun _=>?_|refine kA' fun _=>?_|refine kK' fun _=>?_|refine kU' ?_|(apply kq; (· exact rfl); (· intro w1 h1; first | (have hq := CallsTo.q (show CallsTo Tryz.prog 11 [.slice a1 l.length c1, .slice a l.length c] w1 _ from c19 a1 a c1 c l l w1 (ownsRow_rd (h1.holds (osl (.slice a1 l.length c1) 5 1 l.length (bv l)) memZ)) (h1.rd_of (a := a) (xs := bv l) memZ) (by omega)) h1; rw [decide_eq_true rfl] at hq; exact hq) | exact CallsTo.q (p29 w1) h1))|((first|refine kR' ?_ ?_|refine kQ' ?_ ?_);all_goals(intro hc;try simp only[hcs]at hc;try(exfalso;first|contradiction|omega))))
    all_goals try (exfalso; omega)
    (apply ret1; (· exact rfl); intro w' hS)
    exact ⟨rfl, hS.toKeep⟩
  have hXx := hXb hb0
  subst hXx
  obtain ⟨da, dc, ta, tc, ca, cc⟩ := A
  simp only at hX ⊢
  have hn0 : 0 < p.d.msg.body.length := List.length_pos_iff.2 hb0
  apply CW.loop [8, 36, 37, 38, 39, 40, 41, 42, 43, 44, 45, 46, 47, 48, 49, 50, 51, 52, 53, 54, 55, 56, 57, 58] (fun s : Nat × List Int => s.1 ≤ p.d.msg.body.length ∧ s.2.length = p.d.msg.body.length) (fun s => [(8, Value.int .i64 (s.1 : Int))])
    (fun s => St w NoF [osl (.slice da p.d.msg.body.length dc) 5 1 p.d.msg.body.length (bv s.2), .own b4 (.cells (p.cells ⟨da, dc, ta, tc, ca, cc⟩).toArray 42 (0, 0)), osl (.slice a1 l.length c1) 5 1 l.length (bv l), rdA a (bv l)]) (fun s => p.d.msg.body.length - s.1)
  · refine fun w' hw' => ⟨(0, p.d.msg.body), ⟨by simp, rfl⟩, ⟨rfl, trivial⟩, ?_⟩
    exact front (hw'.sub (L' := [.own b4 (.cells (p.cells ⟨da, dc, ta, tc, ca, cc⟩).toArray 42 (0, 0)), osl (.slice da p.d.msg.body.length dc) 5 1 p.d.msg.body.length (bv p.d.msg.body), osl (.slice a1 l.length c1) 5 1 l.length (bv l), rdA a (bv l)]) subZ) 1 rfl rfl
  rintro ⟨i, l'⟩ g ⟨hi, hl'⟩
  simp only at hi hl' ⊢
  by_cases hlt : i < p.d.msg.body.length
  · have hne : (bv l') ≠ [] := fun e => by have := congrArg List.length e; simp at this; subst this; simp at hl'; omega
    refine LR_cls_cw fun w1 hw1 => ?_
    obtain ⟨bx, ox, rfl⟩ := (ownsRow_rd hw1.g0).form hne
    refine CW.sub (D := St w NoF _) ?_ (fun u e => e ▸ hw1)
    have hil : (i : Int) < (p.d.msg.body.length : Int) := by omega
    repeat'(first|(apply CW.reg_held (St w NoF [.own b4 (.cells (p.cells ⟨some ⟨bx, ox, none⟩, dc, ta, tc, ca, cc⟩).toArray 42 (0, 0)), osl (.slice a1 l.length c1) 5 1 l.length (bv l), rdA a (bv l)]))|refine kv' ?_|apply jJ|refine jE' ?_|refine jp' ?_|(apply jc;kernel_rfl)|refine kg' ?_|refine kG' ?_|refine kB' fun _=>?_|refine kA' fun _=>?_|refine kK' fun _=>?_|refine kU' ?_|((first|refine kR' ?_ ?_|refine kQ' ?_ ?_);all_goals(intro hc;try simp only[hcs]at hc;try(exfalso;first|contradiction|omega))))
    apply DW.quiet [0, 1, 2, 3, 4, 5, 6, 7, 8, 9, 10]
    · decide +kernel
    · exact fun _ h => h.tail1
    repeat'(first|refine yv' ?_|(apply QL.ev; (· exact rfl); (· apply Ev.indexAddr; (· exact rfl); (· exact rfl); (· first | omega | (dsimp only; omega)); (· first | omega | (dsimp only; omega))); (· exact rfl))|refine uv' ?_|refine un' ?_|apply QL.nil)
    apply DW.loud 11
    · exact rfl
    · decide +kernel
    repeat'(first|refine kv' ?_|apply jJ|refine jE' ?_|refine jp' ?_|(apply jc;kernel_rfl)|refine kg' ?_|refine kG' ?_|refine kB' fun _=>?_|refine kA' fun _=>?_|refine kK' fun _=>?_|refine kU' ?_|(apply LR.ev; (· apply Ev.load_osl; (· exact rfl); (· (repeat (first | exact mH _ _ | apply mT))); (· exact bv_at (l := l') (i := i) (by simp) (by omega))); (· exact rfl))|((first|refine kR' ?_ ?_|refine kQ' ?_ ?_);all_goals(intro hc;try simp only[hcs]at hc;try(exfalso;first|contradiction|omega))))
    refine At.stage_same (fun _ h => h.tail1) ?_
    apply DW.quiet [12, 13]
    · decide +kernel
    · exact fun _ h => h.tail1
    repeat'(first|refine yv' ?_|(apply QL.ev; (· exact rfl); (· apply Ev.indexAddr; (· exact rfl); (· exact rfl); (· first | omega | (dsimp only; omega)); (· first | omega | (dsimp only; omega))); (· exact rfl))|refine uv' ?_|refine un' ?_|apply QL.nil)
    apply DW.loud 14
    · exact rfl
    · decide +kernel
    refine LR.store_obj (v := .int .u8 (xorI .u8 l'[i] 90)) (z' := osl (.slice (some ⟨bx, ox, none⟩) p.d.msg.body.length dc) 5 1 p.d.msg.body.length (bv (l'.set i (xorI .u8 l'[i] 90)))) rfl rfl (sH _ _ _) rfl ?_ (osl.dep _ _ _ _ _) ?_
    · have st := Stores.osl (P := Tryz.prog) (T := 5) (q := 1) (b := bx) (o := ox) (i := (i : Int).toNat * 1) (n := p.d.msg.body.length) (c := dc) (v := .int .u8 (xorI .u8 l'[i] 90)) (vs := [.int .u8 (xorI .u8 l'[i] 90)]) (xs := bv l') (E := 5) (sz := 1) inferInstance rfl rfl rfl (by simp; omega)
      rw [show (i : Int).toNat * 1 = i by omega] at st ⊢
      rwa [splice_bv _ _ _ (by omega)] at st
    repeat'(first|refine kv' ?_|apply jJ|refine jE' ?_|refine jp' ?_|(apply jc;kernel_rfl)|refine kg' ?_|refine kG' ?_|refine kB' fun _=>?_|refine kA' fun _=>?_|refine kK' fun _=>?_|refine kU' ?_|((first|refine kR' ?_ ?_|refine kQ' ?_ ?_);all_goals(intro hc;try simp only[hcs]at hc;try(exfalso;first|contradiction|omega))))
    refine At.stage_same (fun _ h => h.tail1) ?_
    apply DW.done
    · kernel_rfl
    repeat'(first|refine kv' ?_|apply jJ|refine jE' ?_|refine jp' ?_|(apply jc;kernel_rfl)|refine kg' ?_|refine kG' ?_|refine kB' fun _=>?_|refine kA' fun _=>?_|refine kK' fun _=>?_|refine kU' ?_|(apply addX;(iterate 2 exact rfl);(iterate 2(first|omega|(dsimp only;omega)));exact rfl)|((first|refine kR' ?_ ?_|refine kQ' ?_ ?_);all_goals(intro hc;try simp only[hcs]at hc;try(exfalso;first|contradiction|omega))))
    apply At.again (i + 1, l'.set i (xorI .u8 l'[i] 90)) ⟨by show i + 1 ≤ _; omega, by simp [hl']⟩
    · (repeat (first | exact Out.refl _ _ | exact Out.mix | (apply Out.upd; (· exact rfl)) | (apply Out.updL; (· exact rfl)) | (apply Out.mixs; (· exact rfl))))
    · exact ⟨rfl, trivial⟩
    · exact fun w' hw' => hw'
    · show p.d.msg.body.length - (i + 1) < p.d.msg.body.length - i; omega
  · repeat'(first|refine kv' ?_|apply jJ|refine jE' ?_|refine jp' ?_|(apply jc;kernel_rfl)|refine kg' ?_|refine kG' ?_|refine kB' fun _=>?_|refine kA' fun _=>?_|refine kK' fun _=>?_|refine kU' ?_|(apply kq; (· exact rfl); (· intro w1 h1; first | (have hq := CallsTo.q (show CallsTo Tryz.prog 11 [.slice a1 l.length c1, .slice a l.length c] w1 _ from c19 a1 a c1 c l l w1 (ownsRow_rd (h1.holds (osl (.slice a1 l.length c1) 5 1 l.length (bv l)) memZ)) (h1.rd_of (a := a) (xs := bv l) memZ) (by omega)) h1; rw [decide_eq_true rfl] at hq; exact hq) | exact CallsTo.q (p29 w1) h1))|((first|refine kR' ?_ ?_|refine kQ' ?_ ?_);all_goals(intro hc;try simp only[hcs]at hc;try(exfalso;first|contradiction|omega))))
    all_goals try (exfalso; omega)
    (apply ret1; (· exact rfl); intro w' hS)
    exact ⟨rfl, hS.toKeep⟩
end Go.Proofs.YtkolmkdbjagfcaaGreat

namespace Go.Proofs.YtkolmkdbjagfcaaGreat
open Go.Hb
attribute [local irreducible] LR CW At Ev thn blk finK noG again CallsTo DW QL dnext TW DP
set_option maxRecDepth 100000

def seenP : Pkt := { zPkt with kind := 5, b1 := 4, b2 := 1, b3 := 3 }
theorem e68 (w : World) : CallsTo Tryz.prog 68 [] w fun v w' => v = seenP.val zA ∧ Grew w w' := by
  refine go_in (n := 4) (St.refl _ NoF) Tryz.func68 rfl rfl ?_
  repeat'(first|refine kv' ?_|apply jJ|refine jE' ?_|refine jp' ?_|(apply jc;kernel_rfl)|refine kg' ?_|refine kG' ?_|refine kB' fun _=>?_|refine kA' fun _=>?_|refine kK' fun _=>?_|refine kU' ?_|((first|refine kR' ?_ ?_|refine kQ' ?_ ?_);all_goals(intro hc;try simp only[hcs]at hc;try(exfalso;first|contradiction|omega))))
  (apply ret1c; (· exact rfl); (· exact inferInstance); (· exact rfl); (· (repeat (first | exact List.Mem.head _ | apply List.Mem.tail))); (· exact rfl); intro w' hS)
  exact ⟨rfl, hS.toKeep⟩
def agreedP : Pkt := { zPkt with kind := 4, to := 3, c := ⟨9, 1, 10, 1, [⟨1, 2, 1, 3, 4, 5⟩]⟩ }
def gA (b : Nat) : PAd := { zA with ca := some ⟨b, 0, none⟩, cc := 1 }
abbrev entK (b : Nat) : Asrt := .own b (.cells [Value.int .i64 1, .int .i64 2, .int .i64 1, .int .i64 3, .int .i64 4, .int .i64 5].toArray 77 (0, 0))
theorem e20 (w : World) : CallsTo Tryz.prog 20 [] w fun v w' => ∃ b, v = agreedP.val (gA b) ∧ New1 (entK b) w w' := by
  refine go_in (n := 7) (St.refl _ NoF) Tryz.func20 rfl rfl ?_
  repeat'(first|(refine kK' fun bs => ?_)|refine kv' ?_|apply jJ|refine jE' ?_|refine jp' ?_|(apply jc;kernel_rfl)|refine kg' ?_|refine kG' ?_|refine kB' fun _=>?_|refine kA' fun _=>?_|refine kK' fun _=>?_|refine kU' ?_|((first|refine kR' ?_ ?_|refine kQ' ?_ ?_);all_goals(intro hc;try simp only[hcs]at hc;try(exfalso;first|contradiction|omega))))
  (apply ret1c; (· exact rfl); (· exact inferInstance); (· exact rfl); (· (repeat (first | exact List.Mem.head _ | apply List.Mem.tail))); (· exact rfl); intro w' hS)
  exact ⟨bs, rfl, hS.new1 rfl⟩
def TurnP (i : Int) (v : Value) (w w' : World) : Prop := ∃ p A X, v = Pkt.val p A ∧ New1 X w w' ∧ X.dep ∧ X.excl = true ∧ (∀ w2, X.holds w2 → PktR w2 p A) ∧ PktI p ∧ (i = 9 → chkP p = true) ∧ (i = 29 → chkP p = true)
theorem turn_new {w w' : World} {L : List Asrt} {be br : Nat} {o1 o2 : Obj} (hS : St w NoF L w') (hs : [Asrt.own be o1, .own br o2].Sublist L) : New1 (both (.own be o1) (.own br o2)) w w' := (St.join (hS.sub hs) rfl rfl).new1 rfl
theorem rA_z {b : Nat} (e : (rA b).ta = none) : (rA b).tc = 0 := by cases e
theorem gA_z {b : Nat} (e : (gA b).ca = none) : (gA b).cc = 0 := by cases e
theorem byt_nil : Byt [] := fun x hx => by simp at hx
theorem PktM.toR17 {w : World} {p : Pkt} {A : PAd} (h : PktM w p A) (hb : Byt p.d.msg.body) (h1 : p.d.msg.body.length ≤ 140737488351232) (h2 : p.t.ask.length ≤ 17) (h3 : p.c.ents.length ≤ 8) : PktR w p A :=
  ⟨h.hd, h.hdz, hb, h1, h.ht, h.htz, by omega, h.hc, h.hcz, by omega⟩
set_option maxHeartbeats 32000000 in
theorem e17 (i : Int) (w : World) : CallsTo Tryz.prog 17 [.int .i64 i] w fun v w' => TurnP i v w w' := by
  refine go_in (n := 204) (St.refl _ NoF) Tryz.func17 rfl rfl ?_
  repeat'(first|(refine kK' fun bs => ?_)|refine kv' ?_|apply jJ|refine jE' ?_|refine jp' ?_|(apply jc;kernel_rfl)|refine kg' ?_|refine kG' ?_|refine kB' fun _=>?_|refine kA' fun _=>?_|refine kK' fun _=>?_|refine kU' ?_|(apply LR.ev; (· apply Ev.indexAddr; (· exact rfl); (· exact rfl); (· decide); (· decide)); (· exact rfl))|(apply kq; (· exact rfl); (· intro w1 h1; first | exact CallsTo.q (show CallsTo Tryz.prog 55 [] w1 _ from p52 w1) h1 | exact CallsTo.q (e68 w1) h1))|(apply LR.call; (· exact rfl); (intro w1 h1; first | (refine CallsTo.mono (show CallsTo Tryz.prog 56 [] w1 _ from p53 w1) ?_; rintro v w2 ⟨br, rfl, hn⟩; refine LR.back (h1.got hn (Asrt.dep_own _ _)) ?_; clear hn h1) | (refine CallsTo.mono (show CallsTo Tryz.prog 20 [] w1 _ from e20 w1) ?_; rintro v w2 ⟨be, rfl, hn⟩; refine LR.back (h1.got hn (Asrt.dep_own _ _)) ?_; clear hn h1)))|((first|refine kR' ?_ ?_|refine kQ' ?_ ?_);all_goals(intro hc;try simp only[hcs]at hc;try(exfalso;first|contradiction|omega))))
  all_goals (
    (apply ret1c; (· exact rfl); (· exact inferInstance); (· exact rfl); (· (repeat (first | exact List.Mem.head _ | apply List.Mem.tail))); (· exact rfl); intro w' hS)
    first
      | (refine ⟨roundP, rA br, _, rfl, turn_new (be := be) (br := br) hS subZ, both_dep (Asrt.dep_own _ _) (Asrt.dep_own _ _), rfl, ?_, ?_, ?_, ?_⟩; exact fun w2 h2 => PktM.toR17 ⟨Rd.nil _ _, fun _ => rfl, own_rd h2.2.1, rA_z, Rd.nil _ _, fun _ => rfl⟩ byt_nil (by decide) (by decide) (by decide); exact ⟨by decide, by decide⟩; (intro h; first | (exfalso; omega) | decide); (intro h; first | (exfalso; omega) | decide))
      | (refine ⟨{ roundP with to := 0 }, rA br, _, rfl, turn_new (be := be) (br := br) hS subZ, both_dep (Asrt.dep_own _ _) (Asrt.dep_own _ _), rfl, ?_, ?_, ?_, ?_⟩; exact fun w2 h2 => PktM.toR17 ⟨Rd.nil _ _, fun _ => rfl, own_rd h2.2.1, rA_z, Rd.nil _ _, fun _ => rfl⟩ byt_nil (by decide) (by decide) (by decide); exact ⟨by decide, by decide⟩; (intro h; first | (exfalso; omega) | decide); (intro h; first | (exfalso; omega) | decide))
      | (refine ⟨{ roundP with to := 9 }, rA br, _, rfl, turn_new (be := be) (br := br) hS subZ, both_dep (Asrt.dep_own _ _) (Asrt.dep_own _ _), rfl, ?_, ?_, ?_, ?_⟩; exact fun w2 h2 => PktM.toR17 ⟨Rd.nil _ _, fun _ => rfl, own_rd h2.2.1, rA_z, Rd.nil _ _, fun _ => rfl⟩ byt_nil (by decide) (by decide) (by decide); exact ⟨by decide, by decide⟩; (intro h; first | (exfalso; omega) | decide); (intro h; first | (exfalso; omega) | decide))
      | (refine ⟨{ roundP with t := { roundP.t with r1 := 0, r2 := 0 } }, rA br, _, rfl, turn_new (be := be) (br := br) hS subZ, both_dep (Asrt.dep_own _ _) (Asrt.dep_own _ _), rfl, ?_, ?_, ?_, ?_⟩; exact fun w2 h2 => PktM.toR17 ⟨Rd.nil _ _, fun _ => rfl, own_rd h2.2.1, rA_z, Rd.nil _ _, fun _ => rfl⟩ byt_nil (by decide) (by decide) (by decide); exact ⟨by decide, by decide⟩; (intro h; first | (exfalso; omega) | decide); (intro h; first | (exfalso; omega) | decide))
      | (refine ⟨{ roundP with t := { roundP.t with hop := 0 } }, rA br, _, rfl, turn_new (be := be) (br := br) hS subZ, both_dep (Asrt.dep_own _ _) (Asrt.dep_own _ _), rfl, ?_, ?_, ?_, ?_⟩; exact fun w2 h2 => PktM.toR17 ⟨Rd.nil _ _, fun _ => rfl, own_rd h2.2.1, rA_z, Rd.nil _ _, fun _ => rfl⟩ byt_nil (by decide) (by decide) (by decide); exact ⟨by decide, by decide⟩; (intro h; first | (exfalso; omega) | decide); (intro h; first | (exfalso; omega) | decide))
      | (refine ⟨{ roundP with t := { roundP.t with aru := 10 } }, rA br, _, rfl, turn_new (be := be) (br := br) hS subZ, both_dep (Asrt.dep_own _ _) (Asrt.dep_own _ _), rfl, ?_, ?_, ?_, ?_⟩; exact fun w2 h2 => PktM.toR17 ⟨Rd.nil _ _, fun _ => rfl, own_rd h2.2.1, rA_z, Rd.nil _ _, fun _ => rfl⟩ byt_nil (by decide) (by decide) (by decide); exact ⟨by decide, by decide⟩; (intro h; first | (exfalso; omega) | decide); (intro h; first | (exfalso; omega) | decide))
      | (refine ⟨{ roundP with t := { roundP.t with low := 9 } }, rA br, _, rfl, turn_new (be := be) (br := br) hS subZ, both_dep (Asrt.dep_own _ _) (Asrt.dep_own _ _), rfl, ?_, ?_, ?_, ?_⟩; exact fun w2 h2 => PktM.toR17 ⟨Rd.nil _ _, fun _ => rfl, own_rd h2.2.1, rA_z, Rd.nil _ _, fun _ => rfl⟩ byt_nil (by decide) (by decide) (by decide); exact ⟨by decide, by decide⟩; (intro h; first | (exfalso; omega) | decide); (intro h; first | (exfalso; omega) | decide))
      | (refine ⟨{ roundP with t := { roundP.t with stamp := 9007199254740992 } }, rA br, _, rfl, turn_new (be := be) (br := br) hS subZ, both_dep (Asrt.dep_own _ _) (Asrt.dep_own _ _), rfl, ?_, ?_, ?_, ?_⟩; exact fun w2 h2 => PktM.toR17 ⟨Rd.nil _ _, fun _ => rfl, own_rd h2.2.1, rA_z, Rd.nil _ _, fun _ => rfl⟩ byt_nil (by decide) (by decide) (by decide); exact ⟨by decide, by decide⟩; (intro h; first | (exfalso; omega) | decide); (intro h; first | (exfalso; omega) | decide))
      | (refine ⟨{ roundP with t := { roundP.t with idle := -1 } }, rA br, _, rfl, turn_new (be := be) (br := br) hS subZ, both_dep (Asrt.dep_own _ _) (Asrt.dep_own _ _), rfl, ?_, ?_, ?_, ?_⟩; exact fun w2 h2 => PktM.toR17 ⟨Rd.nil _ _, fun _ => rfl, own_rd h2.2.1, rA_z, Rd.nil _ _, fun _ => rfl⟩ byt_nil (by decide) (by decide) (by decide); exact ⟨by decide, by decide⟩; (intro h; first | (exfalso; omega) | decide); (intro h; first | (exfalso; omega) | decide))
      | (refine ⟨{ roundP with j1 := 1 }, rA br, _, rfl, turn_new (be := be) (br := br) hS subZ, both_dep (Asrt.dep_own _ _) (Asrt.dep_own _ _), rfl, ?_, ?_, ?_, ?_⟩; exact fun w2 h2 => PktM.toR17 ⟨Rd.nil _ _, fun _ => rfl, own_rd h2.2.1, rA_z, Rd.nil _ _, fun _ => rfl⟩ byt_nil (by decide) (by decide) (by decide); exact ⟨by decide, by decide⟩; (intro h; first | (exfalso; omega) | decide); (intro h; first | (exfalso; omega) | decide))
      | (refine ⟨{ roundP with j2 := 1 }, rA br, _, rfl, turn_new (be := be) (br := br) hS subZ, both_dep (Asrt.dep_own _ _) (Asrt.dep_own _ _), rfl, ?_, ?_, ?_, ?_⟩; exact fun w2 h2 => PktM.toR17 ⟨Rd.nil _ _, fun _ => rfl, own_rd h2.2.1, rA_z, Rd.nil _ _, fun _ => rfl⟩ byt_nil (by decide) (by decide) (by decide); exact ⟨by decide, by decide⟩; (intro h; first | (exfalso; omega) | decide); (intro h; first | (exfalso; omega) | decide))
      | (refine ⟨{ roundP with j3 := 1 }, rA br, _, rfl, turn_new (be := be) (br := br) hS subZ, both_dep (Asrt.dep_own _ _) (Asrt.dep_own _ _), rfl, ?_, ?_, ?_, ?_⟩; exact fun w2 h2 => PktM.toR17 ⟨Rd.nil _ _, fun _ => rfl, own_rd h2.2.1, rA_z, Rd.nil _ _, fun _ => rfl⟩ byt_nil (by decide) (by decide) (by decide); exact ⟨by decide, by decide⟩; (intro h; first | (exfalso; omega) | decide); (intro h; first | (exfalso; omega) | decide))
      | (refine ⟨{ roundP with d := { roundP.d with msg := { roundP.d.msg with safe := true } } }, rA br, _, rfl, turn_new (be := be) (br := br) hS subZ, both_dep (Asrt.dep_own _ _) (Asrt.dep_own _ _), rfl, ?_, ?_, ?_, ?_⟩; exact fun w2 h2 => PktM.toR17 ⟨Rd.nil _ _, fun _ => rfl, own_rd h2.2.1, rA_z, Rd.nil _ _, fun _ => rfl⟩ byt_nil (by decide) (by decide) (by decide); exact ⟨by decide, by decide⟩; (intro h; first | (exfalso; omega) | decide); (intro h; first | (exfalso; omega) | decide))
      | (refine ⟨{ joinedP with j1 := 2 }, zA, _, rfl, turn_new (be := be) (br := br) hS subZ, both_dep (Asrt.dep_own _ _) (Asrt.dep_own _ _), rfl, ?_, ?_, ?_, ?_⟩; exact fun w2 h2 => PktM.toR17 ⟨Rd.nil _ _, fun _ => rfl, Rd.nil _ _, fun _ => rfl, Rd.nil _ _, fun _ => rfl⟩ byt_nil (by decide) (by decide) (by decide); exact ⟨by decide, by decide⟩; (intro h; first | (exfalso; omega) | decide); (intro h; first | (exfalso; omega) | decide))
      | (refine ⟨{ joinedP with j2 := 2 }, zA, _, rfl, turn_new (be := be) (br := br) hS subZ, both_dep (Asrt.dep_own _ _) (Asrt.dep_own _ _), rfl, ?_, ?_, ?_, ?_⟩; exact fun w2 h2 => PktM.toR17 ⟨Rd.nil _ _, fun _ => rfl, Rd.nil _ _, fun _ => rfl, Rd.nil _ _, fun _ => rfl⟩ byt_nil (by decide) (by decide) (by decide); exact ⟨by decide, by decide⟩; (intro h; first | (exfalso; omega) | decide); (intro h; first | (exfalso; omega) | decide))
      | (refine ⟨{ joinedP with j3 := 2 }, zA, _, rfl, turn_new (be := be) (br := br) hS subZ, both_dep (Asrt.dep_own _ _) (Asrt.dep_own _ _), rfl, ?_, ?_, ?_, ?_⟩; exact fun w2 h2 => PktM.toR17 ⟨Rd.nil _ _, fun _ => rfl, Rd.nil _ _, fun _ => rfl, Rd.nil _ _, fun _ => rfl⟩ byt_nil (by decide) (by decide) (by decide); exact ⟨by decide, by decide⟩; (intro h; first | (exfalso; omega) | decide); (intro h; first | (exfalso; omega) | decide))
      | (refine ⟨{ joinedP with j1 := 7 }, zA, _, rfl, turn_new (be := be) (br := br) hS subZ, both_dep (Asrt.dep_own _ _) (Asrt.dep_own _ _), rfl, ?_, ?_, ?_, ?_⟩; exact fun w2 h2 => PktM.toR17 ⟨Rd.nil _ _, fun _ => rfl, Rd.nil _ _, fun _ => rfl, Rd.nil _ _, fun _ => rfl⟩ byt_nil (by decide) (by decide) (by decide); exact ⟨by decide, by decide⟩; (intro h; first | (exfalso; omega) | decide); (intro h; first | (exfalso; omega) | decide))
      | (refine ⟨{ joinedP with j2 := 7 }, zA, _, rfl, turn_new (be := be) (br := br) hS subZ, both_dep (Asrt.dep_own _ _) (Asrt.dep_own _ _), rfl, ?_, ?_, ?_, ?_⟩; exact fun w2 h2 => PktM.toR17 ⟨Rd.nil _ _, fun _ => rfl, Rd.nil _ _, fun _ => rfl, Rd.nil _ _, fun _ => rfl⟩ byt_nil (by decide) (by decide) (by decide); exact ⟨by decide, by decide⟩; (intro h; first | (exfalso; omega) | decide); (intro h; first | (exfalso; omega) | decide))
      | (refine ⟨{ joinedP with j3 := 7 }, zA, _, rfl, turn_new (be := be) (br := br) hS subZ, both_dep (Asrt.dep_own _ _) (Asrt.dep_own _ _), rfl, ?_, ?_, ?_, ?_⟩; exact fun w2 h2 => PktM.toR17 ⟨Rd.nil _ _, fun _ => rfl, Rd.nil _ _, fun _ => rfl, Rd.nil _ _, fun _ => rfl⟩ byt_nil (by decide) (by decide) (by decide); exact ⟨by decide, by decide⟩; (intro h; first | (exfalso; omega) | decide); (intro h; first | (exfalso; omega) | decide))
      | (refine ⟨{ joinedP with to := 2 }, zA, _, rfl, turn_new (be := be) (br := br) hS subZ, both_dep (Asrt.dep_own _ _) (Asrt.dep_own _ _), rfl, ?_, ?_, ?_, ?_⟩; exact fun w2 h2 => PktM.toR17 ⟨Rd.nil _ _, fun _ => rfl, Rd.nil _ _, fun _ => rfl, Rd.nil _ _, fun _ => rfl⟩ byt_nil (by decide) (by decide) (by decide); exact ⟨by decide, by decide⟩; (intro h; first | (exfalso; omega) | decide); (intro h; first | (exfalso; omega) | decide))
      | (refine ⟨{ seenP with b1 := 0 }, zA, _, rfl, turn_new (be := be) (br := br) hS subZ, both_dep (Asrt.dep_own _ _) (Asrt.dep_own _ _), rfl, ?_, ?_, ?_, ?_⟩; exact fun w2 h2 => PktM.toR17 ⟨Rd.nil _ _, fun _ => rfl, Rd.nil _ _, fun _ => rfl, Rd.nil _ _, fun _ => rfl⟩ byt_nil (by decide) (by decide) (by decide); exact ⟨by decide, by decide⟩; (intro h; first | (exfalso; omega) | decide); (intro h; first | (exfalso; omega) | decide))
      | (refine ⟨{ seenP with b2 := 0 }, zA, _, rfl, turn_new (be := be) (br := br) hS subZ, both_dep (Asrt.dep_own _ _) (Asrt.dep_own _ _), rfl, ?_, ?_, ?_, ?_⟩; exact fun w2 h2 => PktM.toR17 ⟨Rd.nil _ _, fun _ => rfl, Rd.nil _ _, fun _ => rfl, Rd.nil _ _, fun _ => rfl⟩ byt_nil (by decide) (by decide) (by decide); exact ⟨by decide, by decide⟩; (intro h; first | (exfalso; omega) | decide); (intro h; first | (exfalso; omega) | decide))
      | (refine ⟨{ seenP with b3 := 0 }, zA, _, rfl, turn_new (be := be) (br := br) hS subZ, both_dep (Asrt.dep_own _ _) (Asrt.dep_own _ _), rfl, ?_, ?_, ?_, ?_⟩; exact fun w2 h2 => PktM.toR17 ⟨Rd.nil _ _, fun _ => rfl, Rd.nil _ _, fun _ => rfl, Rd.nil _ _, fun _ => rfl⟩ byt_nil (by decide) (by decide) (by decide); exact ⟨by decide, by decide⟩; (intro h; first | (exfalso; omega) | decide); (intro h; first | (exfalso; omega) | decide))
      | (refine ⟨{ seenP with b1 := 9 }, zA, _, rfl, turn_new (be := be) (br := br) hS subZ, both_dep (Asrt.dep_own _ _) (Asrt.dep_own _ _), rfl, ?_, ?_, ?_, ?_⟩; exact fun w2 h2 => PktM.toR17 ⟨Rd.nil _ _, fun _ => rfl, Rd.nil _ _, fun _ => rfl, Rd.nil _ _, fun _ => rfl⟩ byt_nil (by decide) (by decide) (by decide); exact ⟨by decide, by decide⟩; (intro h; first | (exfalso; omega) | decide); (intro h; first | (exfalso; omega) | decide))
      | (refine ⟨{ seenP with b2 := 9 }, zA, _, rfl, turn_new (be := be) (br := br) hS subZ, both_dep (Asrt.dep_own _ _) (Asrt.dep_own _ _), rfl, ?_, ?_, ?_, ?_⟩; exact fun w2 h2 => PktM.toR17 ⟨Rd.nil _ _, fun _ => rfl, Rd.nil _ _, fun _ => rfl, Rd.nil _ _, fun _ => rfl⟩ byt_nil (by decide) (by decide) (by decide); exact ⟨by decide, by decide⟩; (intro h; first | (exfalso; omega) | decide); (intro h; first | (exfalso; omega) | decide))
      | (refine ⟨{ seenP with b3 := 9 }, zA, _, rfl, turn_new (be := be) (br := br) hS subZ, both_dep (Asrt.dep_own _ _) (Asrt.dep_own _ _), rfl, ?_, ?_, ?_, ?_⟩; exact fun w2 h2 => PktM.toR17 ⟨Rd.nil _ _, fun _ => rfl, Rd.nil _ _, fun _ => rfl, Rd.nil _ _, fun _ => rfl⟩ byt_nil (by decide) (by decide) (by decide); exact ⟨by decide, by decide⟩; (intro h; first | (exfalso; omega) | decide); (intro h; first | (exfalso; omega) | decide))
      | (refine ⟨{ zPkt with kind := 1, d := ⟨4, 1, 1, 1, 0, ⟨3, 1, 0, 0, 0, 0, 0, false, 0, 0, 0, 0, []⟩⟩ }, zA, _, rfl, turn_new (be := be) (br := br) hS subZ, both_dep (Asrt.dep_own _ _) (Asrt.dep_own _ _), rfl, ?_, ?_, ?_, ?_⟩; exact fun w2 h2 => PktM.toR17 ⟨Rd.nil _ _, fun _ => rfl, Rd.nil _ _, fun _ => rfl, Rd.nil _ _, fun _ => rfl⟩ byt_nil (by decide) (by decide) (by decide); exact ⟨by decide, by decide⟩; (intro h; first | (exfalso; omega) | decide); (intro h; first | (exfalso; omega) | decide))
      | (refine ⟨{ zPkt with kind := 1, d := ⟨4, 1, 0, 1, 0, ⟨3, 1, 0, 0, 0, 0, 0, false, 0, 0, 0, 0, []⟩⟩ }, zA, _, rfl, turn_new (be := be) (br := br) hS subZ, both_dep (Asrt.dep_own _ _) (Asrt.dep_own _ _), rfl, ?_, ?_, ?_, ?_⟩; exact fun w2 h2 => PktM.toR17 ⟨Rd.nil _ _, fun _ => rfl, Rd.nil _ _, fun _ => rfl, Rd.nil _ _, fun _ => rfl⟩ byt_nil (by decide) (by decide) (by decide); exact ⟨by decide, by decide⟩; (intro h; first | (exfalso; omega) | decide); (intro h; first | (exfalso; omega) | decide))
      | (refine ⟨{ zPkt with kind := 1, d := ⟨4, 1, 1, 1, 0, zeroMsg⟩ }, zA, _, rfl, turn_new (be := be) (br := br) hS subZ, both_dep (Asrt.dep_own _ _) (Asrt.dep_own _ _), rfl, ?_, ?_, ?_, ?_⟩; exact fun w2 h2 => PktM.toR17 ⟨Rd.nil _ _, fun _ => rfl, Rd.nil _ _, fun _ => rfl, Rd.nil _ _, fun _ => rfl⟩ byt_nil (by decide) (by decide) (by decide); exact ⟨by decide, by decide⟩; (intro h; first | (exfalso; omega) | decide); (intro h; first | (exfalso; omega) | decide))
      | (refine ⟨{ zPkt with kind := 6 }, zA, _, rfl, turn_new (be := be) (br := br) hS subZ, both_dep (Asrt.dep_own _ _) (Asrt.dep_own _ _), rfl, ?_, ?_, ?_, ?_⟩; exact fun w2 h2 => PktM.toR17 ⟨Rd.nil _ _, fun _ => rfl, Rd.nil _ _, fun _ => rfl, Rd.nil _ _, fun _ => rfl⟩ byt_nil (by decide) (by decide) (by decide); exact ⟨by decide, by decide⟩; (intro h; first | (exfalso; omega) | decide); (intro h; first | (exfalso; omega) | decide))
      | (refine ⟨{ zPkt with kind := 4 }, zA, _, rfl, turn_new (be := be) (br := br) hS subZ, both_dep (Asrt.dep_own _ _) (Asrt.dep_own _ _), rfl, ?_, ?_, ?_, ?_⟩; exact fun w2 h2 => PktM.toR17 ⟨Rd.nil _ _, fun _ => rfl, Rd.nil _ _, fun _ => rfl, Rd.nil _ _, fun _ => rfl⟩ byt_nil (by decide) (by decide) (by decide); exact ⟨by decide, by decide⟩; (intro h; first | (exfalso; omega) | decide); (intro h; first | (exfalso; omega) | decide))
      | (refine ⟨agreedP, gA be, _, rfl, turn_new (be := be) (br := br) hS subZ, both_dep (Asrt.dep_own _ _) (Asrt.dep_own _ _), rfl, ?_, ?_, ?_, ?_⟩; exact fun w2 h2 => PktM.toR17 ⟨Rd.nil _ _, fun _ => rfl, Rd.nil _ _, fun _ => rfl, own_rd h2.1, gA_z⟩ byt_nil (by decide) (by decide) (by decide); exact ⟨by decide, by decide⟩; (intro h; first | (exfalso; omega) | decide); (intro h; first | (exfalso; omega) | decide))
      | (refine ⟨{ agreedP with to := 1 }, gA be, _, rfl, turn_new (be := be) (br := br) hS subZ, both_dep (Asrt.dep_own _ _) (Asrt.dep_own _ _), rfl, ?_, ?_, ?_, ?_⟩; exact fun w2 h2 => PktM.toR17 ⟨Rd.nil _ _, fun _ => rfl, Rd.nil _ _, fun _ => rfl, own_rd h2.1, gA_z⟩ byt_nil (by decide) (by decide) (by decide); exact ⟨by decide, by decide⟩; (intro h; first | (exfalso; omega) | decide); (intro h; first | (exfalso; omega) | decide))
      | (refine ⟨{ agreedP with c := { agreedP.c with hop := 5 } }, gA be, _, rfl, turn_new (be := be) (br := br) hS subZ, both_dep (Asrt.dep_own _ _) (Asrt.dep_own _ _), rfl, ?_, ?_, ?_, ?_⟩; exact fun w2 h2 => PktM.toR17 ⟨Rd.nil _ _, fun _ => rfl, Rd.nil _ _, fun _ => rfl, own_rd h2.1, gA_z⟩ byt_nil (by decide) (by decide) (by decide); exact ⟨by decide, by decide⟩; (intro h; first | (exfalso; omega) | decide); (intro h; first | (exfalso; omega) | decide))
      | (refine ⟨{ agreedP with c := { agreedP.c with ents := [⟨3, 2, 1, 3, 4, 5⟩] } }, gA be, _, rfl, turn_new (be := be) (br := br) hS subZ, both_dep (Asrt.dep_own _ _) (Asrt.dep_own _ _), rfl, ?_, ?_, ?_, ?_⟩; exact fun w2 h2 => PktM.toR17 ⟨Rd.nil _ _, fun _ => rfl, Rd.nil _ _, fun _ => rfl, own_rd h2.1, gA_z⟩ byt_nil (by decide) (by decide) (by decide); exact ⟨by decide, by decide⟩; (intro h; first | (exfalso; omega) | decide); (intro h; first | (exfalso; omega) | decide))
      | (refine ⟨{ agreedP with c := { agreedP.c with ents := [⟨1, 2, 1, 5, 4, 5⟩] } }, gA be, _, rfl, turn_new (be := be) (br := br) hS subZ, both_dep (Asrt.dep_own _ _) (Asrt.dep_own _ _), rfl, ?_, ?_, ?_, ?_⟩; exact fun w2 h2 => PktM.toR17 ⟨Rd.nil _ _, fun _ => rfl, Rd.nil _ _, fun _ => rfl, own_rd h2.1, gA_z⟩ byt_nil (by decide) (by decide) (by decide); exact ⟨by decide, by decide⟩; (intro h; first | (exfalso; omega) | decide); (intro h; first | (exfalso; omega) | decide))
      | (refine ⟨{ agreedP with c := { agreedP.c with ents := [⟨1, 0, 0, 3, 4, 5⟩] } }, gA be, _, rfl, turn_new (be := be) (br := br) hS subZ, both_dep (Asrt.dep_own _ _) (Asrt.dep_own _ _), rfl, ?_, ?_, ?_, ?_⟩; exact fun w2 h2 => PktM.toR17 ⟨Rd.nil _ _, fun _ => rfl, Rd.nil _ _, fun _ => rfl, own_rd h2.1, gA_z⟩ byt_nil (by decide) (by decide) (by decide); exact ⟨by decide, by decide⟩; (intro h; first | (exfalso; omega) | decide); (intro h; first | (exfalso; omega) | decide))
      | (refine ⟨{ agreedP with c := { agreedP.c with r2 := 3 } }, gA be, _, rfl, turn_new (be := be) (br := br) hS subZ, both_dep (Asrt.dep_own _ _) (Asrt.dep_own _ _), rfl, ?_, ?_, ?_, ?_⟩; exact fun w2 h2 => PktM.toR17 ⟨Rd.nil _ _, fun _ => rfl, Rd.nil _ _, fun _ => rfl, own_rd h2.1, gA_z⟩ byt_nil (by decide) (by decide) (by decide); exact ⟨by decide, by decide⟩; (intro h; first | (exfalso; omega) | decide); (intro h; first | (exfalso; omega) | decide))
      | (refine ⟨{ agreedP with c := { agreedP.c with mem := 11 } }, gA be, _, rfl, turn_new (be := be) (br := br) hS subZ, both_dep (Asrt.dep_own _ _) (Asrt.dep_own _ _), rfl, ?_, ?_, ?_, ?_⟩; exact fun w2 h2 => PktM.toR17 ⟨Rd.nil _ _, fun _ => rfl, Rd.nil _ _, fun _ => rfl, own_rd h2.1, gA_z⟩ byt_nil (by decide) (by decide) (by decide); exact ⟨by decide, by decide⟩; (intro h; first | (exfalso; omega) | decide); (intro h; first | (exfalso; omega) | decide))
      | (refine ⟨{ agreedP with to := 1, c := { agreedP.c with hop := 2 } }, gA be, _, rfl, turn_new (be := be) (br := br) hS subZ, both_dep (Asrt.dep_own _ _) (Asrt.dep_own _ _), rfl, ?_, ?_, ?_, ?_⟩; exact fun w2 h2 => PktM.toR17 ⟨Rd.nil _ _, fun _ => rfl, Rd.nil _ _, fun _ => rfl, own_rd h2.1, gA_z⟩ byt_nil (by decide) (by decide) (by decide); exact ⟨by decide, by decide⟩; (intro h; first | (exfalso; omega) | decide); (intro h; first | (exfalso; omega) | decide))
      | (refine ⟨⟨_, _, ⟨_, _, _, _, _, ⟨_, _, _, _, _, _, _, _, _, _, _, _, []⟩⟩, ⟨_, _, _, _, _, _, _, _, [9, 9]⟩, _, _, _, ⟨_, _, _, _, []⟩, _, _, _⟩, ⟨none, 0, some ⟨bs, 0, none⟩, 2, none, 0⟩, _, rfl, hS.new1 rfl, Asrt.dep_own _ _, rfl, ?_, ?_, ?_, ?_⟩; exact fun w2 h2 => PktM.toR17 ⟨Rd.nil _ _, fun _ => rfl, own_rd h2, (by intro e; first | rfl | (cases e; done)), Rd.nil _ _, (by intro e; first | rfl | (cases e; done))⟩ byt_nil (by decide) (by decide) (by decide); exact ⟨by decide, by decide⟩; (intro h; first | (exfalso; omega) | decide); (intro h; first | (exfalso; omega) | decide))
      | (refine ⟨⟨_, _, ⟨_, _, _, _, _, ⟨_, _, _, _, _, _, _, _, _, _, _, _, []⟩⟩, ⟨_, _, _, _, _, _, _, _, [10]⟩, _, _, _, ⟨_, _, _, _, []⟩, _, _, _⟩, ⟨none, 0, some ⟨bs, 0, none⟩, 1, none, 0⟩, _, rfl, hS.new1 rfl, Asrt.dep_own _ _, rfl, ?_, ?_, ?_, ?_⟩; exact fun w2 h2 => PktM.toR17 ⟨Rd.nil _ _, fun _ => rfl, own_rd h2, (by intro e; first | rfl | (cases e; done)), Rd.nil _ _, (by intro e; first | rfl | (cases e; done))⟩ byt_nil (by decide) (by decide) (by decide); exact ⟨by decide, by decide⟩; (intro h; first | (exfalso; omega) | decide); (intro h; first | (exfalso; omega) | decide))
      | (refine ⟨⟨_, _, ⟨_, _, _, _, _, ⟨_, _, _, _, _, _, _, _, _, _, _, _, []⟩⟩, ⟨_, _, _, _, _, _, _, _, [0]⟩, _, _, _, ⟨_, _, _, _, []⟩, _, _, _⟩, ⟨none, 0, some ⟨bs, 0, none⟩, 1, none, 0⟩, _, rfl, hS.new1 rfl, Asrt.dep_own _ _, rfl, ?_, ?_, ?_, ?_⟩; exact fun w2 h2 => PktM.toR17 ⟨Rd.nil _ _, fun _ => rfl, own_rd h2, (by intro e; first | rfl | (cases e; done)), Rd.nil _ _, (by intro e; first | rfl | (cases e; done))⟩ byt_nil (by decide) (by decide) (by decide); exact ⟨by decide, by decide⟩; (intro h; first | (exfalso; omega) | decide); (intro h; first | (exfalso; omega) | decide))
      | (refine ⟨⟨_, _, ⟨_, _, _, _, _, ⟨_, _, _, _, _, _, _, _, _, _, _, _, []⟩⟩, ⟨_, _, _, _, _, _, _, _, [1, 2, 3, 4, 5, 6, 7, 8, 9, 10, 11, 12, 13, 14, 15, 16]⟩, _, _, _, ⟨_, _, _, _, []⟩, _, _, _⟩, ⟨none, 0, some ⟨bs, 0, none⟩, 16, none, 0⟩, _, rfl, hS.new1 rfl, Asrt.dep_own _ _, rfl, ?_, ?_, ?_, ?_⟩; exact fun w2 h2 => PktM.toR17 ⟨Rd.nil _ _, fun _ => rfl, own_rd h2, (by intro e; first | rfl | (cases e; done)), Rd.nil _ _, (by intro e; first | rfl | (cases e; done))⟩ byt_nil (by decide) (by decide) (by decide); exact ⟨by decide, by decide⟩; (intro h; first | (exfalso; omega) | decide); (intro h; first | (exfalso; omega) | decide))
      | (refine ⟨⟨_, _, ⟨_, _, _, _, _, ⟨_, _, _, _, _, _, _, _, _, _, _, _, []⟩⟩, ⟨_, _, _, _, _, _, _, _, [1, 2, 3, 4, 5, 6, 7, 8, 9, 10, 11, 12, 13, 14, 15, 16, 17]⟩, _, _, _, ⟨_, _, _, _, []⟩, _, _, _⟩, ⟨none, 0, some ⟨bs, 0, none⟩, 17, none, 0⟩, _, rfl, hS.new1 rfl, Asrt.dep_own _ _, rfl, ?_, ?_, ?_, ?_⟩; exact fun w2 h2 => PktM.toR17 ⟨Rd.nil _ _, fun _ => rfl, own_rd h2, (by intro e; first | rfl | (cases e; done)), Rd.nil _ _, (by intro e; first | rfl | (cases e; done))⟩ byt_nil (by decide) (by decide) (by decide); exact ⟨by decide, by decide⟩; (intro h; first | (exfalso; omega) | decide); (intro h; first | (exfalso; omega) | decide))
      | fail)
end Go.Proofs.YtkolmkdbjagfcaaGreat

namespace Go.Proofs.YtkolmkdbjagfcaaGreat
open Go.Hb
attribute [local irreducible] LR CW At Ev thn blk finK noG again CallsTo DW QL dnext TW DP
set_option maxRecDepth 100000

def bitM (r : Nat) : Int := IntKind.wrap .u8 (1 * 2 ^ (min ((r : Int)).toNat (IntKind.bits .u8)))
def turnB (x : Int) (r : Nat) : Int := xorI .u8 x (bitM r)
theorem turn_all : ∀ (r : Fin 8) (x : Fin 256), 0 ≤ turnB (x.val : Int) r.val ∧ turnB (x.val : Int) r.val < 256 ∧ turnB (x.val : Int) r.val ≠ (x.val : Int) ∧ turnB (turnB (x.val : Int) r.val) r.val = (x.val : Int) := by decide +kernel
theorem turn_ok {x : Int} {r : Nat} (hx : 0 ≤ x ∧ x < 256) (hr : r < 8) : (0 ≤ turnB x r ∧ turnB x r < 256) ∧ x ≠ turnB x r ∧ turnB (turnB x r) r = x := by
  have h := turn_all ⟨r, hr⟩ ⟨x.toNat, by omega⟩
  simp only at h
  rw [show ((x.toNat : Nat) : Int) = x by omega] at h
  exact ⟨⟨h.1, h.2.1⟩, fun e => h.2.2.1 e.symm, h.2.2.2⟩
set_option maxHeartbeats 16000000 in
theorem p8 (p : Pkt) (A : PAd) (bit : Int) (w : World) (hR : PktR w p A) (hI : PktI p) : CallsTo Tryz.prog 19 [p.val A, .int .i64 bit] w fun v w' => v = .bool true ∧ Grew w w' := by
  refine go_in (n := 68) (St.refl _ NoF) Tryz.func19 rfl rfl ?_
  cases hck : chkP p
  · have hpk : packP p = ([], 2) := by unfold packP; rw [hck]; rfl
    repeat'(first|(apply kB;(iterate 2 exact rfl);intro b1)|refine kv' ?_|apply jJ|refine jE' ?_|refine jp' ?_|(apply jc;kernel_rfl)|refine kg' ?_|refine kG' ?_|refine kB' fun _=>?_|refine kA' fun _=>?_|refine kK' fun _=>?_|refine kU' ?_|(apply kq; (· exact rfl); (· intro w1 h1; exact CallsTo.q (p29 w1) h1))|(apply LR.call; (· exact rfl); (intro w1 h1; refine CallsTo.mono (show CallsTo Tryz.prog 7 [p.val A] w1 (fun v w' => ∃ a' c', v = .tuple [.slice a' 0 c', .int .i64 2].toArray ∧ NewSl w1 w' (.slice a' 0 c') 5 1 0 (bv [])) from by (have hq := p30 p A w1 (hR.old h1) hI); rw [hpk] at hq; exact hq) ?_; rintro v w2 ⟨a2, c2, rfl, hn⟩; refine LR.back (h1.newSl hn) ?_; clear hn h1))|((first|refine kR' ?_ ?_|refine kQ' ?_ ?_);all_goals(intro hc;try simp only[hcs]at hc;try(exfalso;first|contradiction|omega))))
    (apply ret1; (· exact rfl); intro w' hS)
    exact ⟨rfl, hS.toKeep⟩
  have hm := (chk_may hck).1
  have hup := unpack_pack hck
  have hpk : packP p = (sealL (bodyP p), 0) := by unfold packP; rw [hck]; rfl
  have hlb := body_byt hm hR.hdb
  have hsb := seal_byt hlb
  have hsl := sealL_len (bodyP p)
  have hturn := @open_turned (bodyP p)
  obtain ⟨L, hL⟩ : ∃ L, sealL (bodyP p) = L := ⟨_, rfl⟩
  rw [hL] at hup hpk hsb hsl
  have hLl := hup.2
  have hbd := bring_bd bit (8 * (L.length : Int)) (by omega)
  obtain ⟨qn, hqn⟩ := Int.eq_ofNat_of_zero_le hbd.1
  rw [hqn] at hbd
  have hj : qn / 8 < L.length := by omega
  have hr8 : qn % 8 < 8 := Nat.mod_lt _ (by omega)
  have htk := turn_ok (hsb _ (List.getElem_mem hj)) hr8
  have hset : (L.set (qn / 8) (turnB L[qn / 8] (qn % 8))).set (qn / 8) (turnB (turnB L[qn / 8] (qn % 8)) (qn % 8)) = L := by
    rw [htk.2.2, List.set_set]
    exact List.set_getElem_self hj
  obtain ⟨L2, hL2⟩ : ∃ l, L.set (qn / 8) (turnB L[qn / 8] (qn % 8)) = l := ⟨_, rfl⟩
  have hL2l : L2.length = L.length := by rw [← hL2, List.length_set]
  have hL2j : L2[qn / 8]'(by omega) = turnB L[qn / 8] (qn % 8) := by subst hL2; exact List.getElem_set_self _
  have hL2b : Byt L2 := by
    rw [← hL2]
    intro x hx
    rcases List.mem_or_eq_of_mem_set hx with h | rfl
    · exact hsb x h
    · exact htk.1
  have hun2 : unpackP L2 = (zPkt, 60) := by
    have ho : openL L2 = ([], 60) := by
      rw [← hL2]
      subst hL
      exact hturn hj hlb htk.1 htk.2.1
    unfold unpackP
    rw [if_neg (by omega), ho]
    simp only
    rw [if_pos (by decide)]
  have hj2 : qn / 8 < L2.length := by omega
  have hset2 : L2.set (qn / 8) (turnB L2[qn / 8] (qn % 8)) = L := by rw [hL2j, ← hL2]; exact hset
  have hne : bv L ≠ [] := fun e => by have := congrArg List.length e; simp [bv] at this; subst this; simp at hj
  repeat'(first|(apply kB;(iterate 2 exact rfl);intro b1)|refine kv' ?_|apply jJ|refine jE' ?_|refine jp' ?_|(apply jc;kernel_rfl)|refine kg' ?_|refine kG' ?_|refine kB' fun _=>?_|refine kA' fun _=>?_|refine kK' fun _=>?_|refine kU' ?_|(apply kq; (· exact rfl); (· intro w1 h1; exact CallsTo.q (p29 w1) h1))|((first|refine kR' ?_ ?_|refine kQ' ?_ ?_);all_goals(intro hc;try simp only[hcs]at hc;try(exfalso;first|contradiction|omega))))
  apply LR.call
  · exact rfl
  intro w1 h1
  refine CallsTo.mono (show CallsTo Tryz.prog 7 [p.val A] w1 (fun v w' => ∃ a' c', v = .tuple [.slice a' L.length c', .int .i64 0].toArray ∧ NewSl w1 w' (.slice a' L.length c') 5 1 L.length (bv L)) from by (have hq := p30 p A w1 (hR.old h1) hI); rw [hpk] at hq; exact hq) ?_
  rintro v w2 ⟨a1, c1, rfl, hn⟩
  have ca1 := ownsRow_cap hn.own
  obtain ⟨bx, ox, rfl⟩ := (ownsRow_rd (ownsRow_zero hn.own)).form hne
  refine LR.back (h1.newSl hn) ?_
  clear hn h1
  repeat'(first|(apply CW.reg_sinkC 13; (· exact rfl); (· decide +kernel))|refine kv' ?_|apply jJ|refine jE' ?_|refine jp' ?_|(apply jc;kernel_rfl)|refine kg' ?_|refine kG' ?_|refine kB' fun _=>?_|refine kA' fun _=>?_|refine kK' fun _=>?_|refine kU' ?_|(apply mulX;(iterate 2 exact rfl);(iterate 2(first|omega|(dsimp only;omega)));exact rfl)|(apply kq; (· exact rfl); (· intro w1 h1; have hq := CallsTo.q (show CallsTo Tryz.prog 70 [.int .i64 bit, .int .i64 (8 * (L.length : Int))] w1 _ from c31 bit (8 * (L.length : Int)) w1 (by omega)) h1; rw [hqn] at hq; exact hq))|((first|refine kR' ?_ ?_|refine kQ' ?_ ?_);all_goals(intro hc;try simp only[hcs]at hc;try(exfalso;first|contradiction|omega))))
  all_goals (
    apply DW.quiet [0, 1, 2, 3, 4, 5, 6, 7, 8, 9, 10, 11, 12]
    · decide +kernel
    · first | exact fun _ h => h | exact fun _ h => St.sub h subZ
    repeat'(first|refine yv' ?_|(apply QL.ev; (· exact rfl); (· first | (apply quoQ (a := qn) (b := 8) (q := qn / 8) rfl; (· exact rfl); (· exact rfl); (· omega); (· omega)) | (apply remQ (a := qn) (b := 8) (q := qn % 8) rfl; (· exact rfl); (· exact rfl); (· omega)) | (apply Ev.indexAddr; (· exact rfl); (· exact rfl); (· omega); (· omega)) | (apply Ev.load_osl; (· exact rfl); (· (repeat (first | exact mH _ _ | apply mT))); (· exact bv_at (l := L) (i := qn / 8) (by first | omega | (simp; omega)) (by omega))) | (apply Ev.xor; (· exact rfl); (· exact rfl))); (· exact rfl))|refine uv' ?_|refine un' ?_|(refine us' ?_ ?_;all_goals(intro hc;try simp only[hcs]at hc;try(exfalso;first|contradiction|omega)))|apply QL.nil)
    all_goals (show DW _ _ _ _ _ _ _ _))
  all_goals (apply DW.done; (· decide +kernel))
  all_goals apply At.sink
  refine LR.store_obj (v := .int .u8 (turnB L[qn / 8] (qn % 8))) (z := osl (.slice (some ⟨bx, ox, none⟩) L.length c1) 5 1 L.length (bv L)) (z' := osl (.slice (some ⟨bx, ox, none⟩) L.length c1) 5 1 L.length (bv L2)) rfl rfl selZ rfl ?_ (osl.dep _ _ _ _ _) ?_
  · have st := Stores.osl (P := Tryz.prog) (T := 5) (q := 1) (b := bx) (o := ox) (i := ((qn / 8 : Nat) : Int).toNat * 1) (n := L.length) (c := c1) (v := .int .u8 (turnB L[qn / 8] (qn % 8))) (vs := [.int .u8 (turnB L[qn / 8] (qn % 8))]) (xs := bv L) (E := 5) (sz := 1) inferInstance rfl rfl rfl (by simp; omega)
    rw [show ((qn / 8 : Nat) : Int).toNat * 1 = qn / 8 by omega] at st ⊢
    rw [splice_bv _ _ _ (by omega)] at st
    rw [hL2] at st
    exact st
  repeat'(first|refine kv' ?_|apply jJ|refine jE' ?_|refine jp' ?_|(apply jc;kernel_rfl)|refine kg' ?_|refine kG' ?_|refine kB' fun _=>?_|refine kA' fun _=>?_|refine kK' fun _=>?_|refine kU' ?_|((first|refine kR' ?_ ?_|refine kQ' ?_ ?_);all_goals(intro hc;try simp only[hcs]at hc;try(exfalso;first|contradiction|omega))))
  apply LR.call
  · exact rfl
  intro w1 h1
  refine CallsTo.mono (show CallsTo Tryz.prog 15 [.slice (some ⟨bx, ox, none⟩) L.length c1] w1 (fun v w' => UnpP (zPkt, 60) v w1 w') from by (have hq := p32 (some ⟨bx, ox, none⟩) c1 L2 w1 (ownsRow_rd (h1.holds (osl (.slice (some ⟨bx, ox, none⟩) L.length c1) 5 1 L.length (bv L2)) memZ)) hL2b (fun e => by cases e) (by omega) (by omega)); rw [hun2, hL2l] at hq; exact hq) ?_
  rintro v w2 ⟨A7, X7, hv, hn, hXd7, hXe7, hX7⟩
  subst hv
  refine LR.back (h1.got hn hXd7) ?_
  clear hn h1
  repeat'(first|(apply CW.reg_sinkC 13; (· exact rfl); (· decide +kernel))|refine kv' ?_|apply jJ|refine jE' ?_|refine jp' ?_|(apply jc;kernel_rfl)|refine kg' ?_|refine kG' ?_|refine kB' fun _=>?_|refine kA' fun _=>?_|refine kK' fun _=>?_|refine kU' ?_|((first|refine kR' ?_ ?_|refine kQ' ?_ ?_);all_goals(intro hc;try simp only[hcs]at hc;try(exfalso;first|contradiction|omega))))
  all_goals (
    apply DW.quiet [0, 1, 2, 3, 4, 5, 6, 7, 8, 9, 10, 11, 12]
    · decide +kernel
    · first | exact fun _ h => h | exact fun _ h => St.sub h subZ
    repeat'(first|refine yv' ?_|(apply QL.ev; (· exact rfl); (· first | (apply quoQ (a := qn) (b := 8) (q := qn / 8) rfl; (· exact rfl); (· exact rfl); (· omega); (· omega)) | (apply remQ (a := qn) (b := 8) (q := qn % 8) rfl; (· exact rfl); (· exact rfl); (· omega)) | (apply Ev.indexAddr; (· exact rfl); (· exact rfl); (· omega); (· omega)) | (apply Ev.load_osl; (· exact rfl); (· (repeat (first | exact mH _ _ | apply mT))); (· exact bv_at (l := L2) (i := qn / 8) (by first | omega | (simp; omega)) (by omega))) | (apply Ev.xor; (· exact rfl); (· exact rfl))); (· exact rfl))|refine uv' ?_|refine un' ?_|(refine us' ?_ ?_;all_goals(intro hc;try simp only[hcs]at hc;try(exfalso;first|contradiction|omega)))|apply QL.nil)
    all_goals (show DW _ _ _ _ _ _ _ _))
  all_goals (apply DW.done; (· decide +kernel))
  all_goals apply At.sink
  refine LR.store_obj (v := .int .u8 (turnB L2[qn / 8] (qn % 8))) (z := osl (.slice (some ⟨bx, ox, none⟩) L.length c1) 5 1 L.length (bv L2)) (z' := osl (.slice (some ⟨bx, ox, none⟩) L.length c1) 5 1 L.length (bv L)) rfl rfl selZ rfl ?_ (osl.dep _ _ _ _ _) ?_
  · have st := Stores.osl (P := Tryz.prog) (T := 5) (q := 1) (b := bx) (o := ox) (i := ((qn / 8 : Nat) : Int).toNat * 1) (n := L.length) (c := c1) (v := .int .u8 (turnB L2[qn / 8] (qn % 8))) (vs := [.int .u8 (turnB L2[qn / 8] (qn % 8))]) (xs := bv L2) (E := 5) (sz := 1) inferInstance rfl rfl rfl (by simp; omega)
    rw [show ((qn / 8 : Nat) : Int).toNat * 1 = qn / 8 by omega] at st ⊢
    rw [splice_bv _ _ _ (by omega)] at st
    rw [hset2] at st
    exact st
  repeat'(first|refine kv' ?_|apply jJ|refine jE' ?_|refine jp' ?_|(apply jc;kernel_rfl)|refine kg' ?_|refine kG' ?_|refine kB' fun _=>?_|refine kA' fun _=>?_|refine kK' fun _=>?_|refine kU' ?_|((first|refine kR' ?_ ?_|refine kQ' ?_ ?_);all_goals(intro hc;try simp only[hcs]at hc;try(exfalso;first|contradiction|omega))))
  apply LR.call
  · exact rfl
  intro w1 h1
  refine CallsTo.mono (show CallsTo Tryz.prog 15 [.slice (some ⟨bx, ox, none⟩) L.length c1] w1 (fun v w' => UnpP (p, 0) v w1 w') from by (have hq := p32 (some ⟨bx, ox, none⟩) c1 L w1 (ownsRow_rd (h1.holds (osl (.slice (some ⟨bx, ox, none⟩) L.length c1) 5 1 L.length (bv L)) memZ)) hsb (fun e => by cases e) (by omega) (by omega)); rw [hup.1] at hq; exact hq) ?_
  rintro v w2 ⟨A9, X9, hv, hn, hXd9, hXe9, hX9⟩
  subst hv
  refine LR.back (h1.got hn hXd9) ?_
  clear hn h1
  repeat'(first|refine kv' ?_|apply jJ|refine jE' ?_|refine jp' ?_|(apply jc;kernel_rfl)|refine kg' ?_|refine kG' ?_|refine kB' fun _=>?_|refine kA' fun _=>?_|refine kK' fun _=>?_|refine kU' ?_|((first|refine kR' ?_ ?_|refine kQ' ?_ ?_);all_goals(intro hc;try simp only[hcs]at hc;try(exfalso;first|contradiction|omega))))
  (apply ret1; (· exact rfl); intro w' hS)
  exact ⟨rfl, hS.toKeep⟩
end Go.Proofs.YtkolmkdbjagfcaaGreat

namespace Go.Proofs.YtkolmkdbjagfcaaGreat
open Go.Hb
attribute [local irreducible] LR CW At Ev thn blk finK noG again CallsTo DW QL dnext TW DP
set_option maxRecDepth 100000

set_option maxHeartbeats 16000000 in
theorem p6 (p : Pkt) (A : PAd) (w : World) (hR : PktR w p A) (hI : PktI p) : CallsTo Tryz.prog 18 [p.val A] w fun v w' => v = .bool true ∧ Grew w w' := by
  refine go_in (n := 166) (St.refl _ NoF) Tryz.func18 rfl rfl ?_
  cases hck : chkP p
  · have hpk : packP p = ([], 2) := by unfold packP; rw [hck]; rfl
    repeat'(first|(apply kB;(iterate 2 exact rfl);intro b1)|refine kv' ?_|apply jJ|refine jE' ?_|refine jp' ?_|(apply jc;kernel_rfl)|refine kg' ?_|refine kG' ?_|refine kB' fun _=>?_|refine kA' fun _=>?_|refine kK' fun _=>?_|refine kU' ?_|(apply kq; (· exact rfl); (· intro w1 h1; first | exact CallsTo.q (p29 w1) h1 | (have hq := CallsTo.q (p31 p A w1 (hR.old h1) hI) h1; rw [hck] at hq; exact hq)))|(apply LR.call; (· exact rfl); (intro w1 h1; refine CallsTo.mono (show CallsTo Tryz.prog 7 [p.val A] w1 (fun v w' => ∃ a' c', v = .tuple [.slice a' 0 c', .int .i64 2].toArray ∧ NewSl w1 w' (.slice a' 0 c') 5 1 0 (bv [])) from by (have hq := p30 p A w1 (hR.old h1) hI); rw [hpk] at hq; exact hq) ?_; rintro v w2 ⟨a2, c2, rfl, hn⟩; refine LR.back (h1.newSl hn) ?_; clear hn h1))|((first|refine kR' ?_ ?_|refine kQ' ?_ ?_);all_goals(intro hc;try simp only[hcs]at hc;try(exfalso;first|contradiction|omega))))
    (apply ret1; (· exact rfl); intro w' hS)
    exact ⟨rfl, hS.toKeep⟩
  have hm := (chk_may hck).1
  have hup := unpack_pack hck
  have hpk : packP p = (sealL (bodyP p), 0) := by unfold packP; rw [hck]; rfl
  have hsb := seal_byt (body_byt hm hR.hdb)
  obtain ⟨L, hL⟩ : ∃ L, sealL (bodyP p) = L := ⟨_, rfl⟩
  rw [hL] at hup hpk hsb
  have hLl := hup.2
  have hf := unp_facts hsb
  rw [hup.1] at hf
  simp only at hf
  obtain ⟨hpb, hpl, hpa, hpe, hpi⟩ := hf
  have h30 : ∀ (B : PAd) (w1 : World), PktR w1 p B → CallsTo Tryz.prog 7 [p.val B] w1 (fun v w' => ∃ a' c', v = .tuple [.slice a' L.length c', .int .i64 0].toArray ∧ NewSl w1 w' (.slice a' L.length c') 5 1 L.length (bv L)) := fun B w1 hB => by
    have hq := p30 p B w1 hB hI
    rw [hpk] at hq
    exact hq
  repeat'(first|(apply kB;(iterate 2 exact rfl);intro b1)|refine kv' ?_|apply jJ|refine jE' ?_|refine jp' ?_|(apply jc;kernel_rfl)|refine kg' ?_|refine kG' ?_|refine kB' fun _=>?_|refine kA' fun _=>?_|refine kK' fun _=>?_|refine kU' ?_|(apply kq; (· exact rfl); (· intro w1 h1; exact CallsTo.q (p29 w1) h1))|((first|refine kR' ?_ ?_|refine kQ' ?_ ?_);all_goals(intro hc;try simp only[hcs]at hc;try(exfalso;first|contradiction|omega))))
  apply LR.call
  · exact rfl
  intro w1 h1
  refine CallsTo.mono (h30 A w1 (hR.old h1)) ?_
  rintro v w2 ⟨a1, c1, rfl, hn⟩
  have ca1 := ownsRow_cap hn.own
  refine LR.back (h1.newSl hn) ?_
  clear hn h1
  repeat'(first|refine kv' ?_|apply jJ|refine jE' ?_|refine jp' ?_|(apply jc;kernel_rfl)|refine kg' ?_|refine kG' ?_|refine kB' fun _=>?_|refine kA' fun _=>?_|refine kK' fun _=>?_|refine kU' ?_|((first|refine kR' ?_ ?_|refine kQ' ?_ ?_);all_goals(intro hc;try simp only[hcs]at hc;try(exfalso;first|contradiction|omega))))
  apply LR.call
  · exact rfl
  intro w1 h1
  refine CallsTo.mono (show CallsTo Tryz.prog 15 [.slice a1 L.length c1] w1 (fun v w' => UnpP (p, 0) v w1 w') from by (have hq := p32 a1 c1 L w1 (h1.rd_of_own memZ) hsb (fun e => (ownsRow_some h1.g0 e).2) ca1 (by omega)); rw [hup.1] at hq; exact hq) ?_
  rintro v w2 ⟨A2, X, hv, hn, hXd, hXe, hX⟩
  replace hv : v = .tuple [p.val A2, .int .i64 0].toArray := hv
  subst hv
  replace hX : ∀ w2, X.holds w2 → PktM w2 p A2 := hX
  refine LR.back (h1.got hn hXd) ?_
  clear hn h1
  repeat'(first|refine kv' ?_|apply jJ|refine jE' ?_|refine jp' ?_|(apply jc;kernel_rfl)|refine kg' ?_|refine kG' ?_|refine kB' fun _=>?_|refine kA' fun _=>?_|refine kK' fun _=>?_|refine kU' ?_|(apply LR.call; (· exact rfl); (intro w1 h1; refine CallsTo.mono (show CallsTo Tryz.prog 7 [p.val A2] w1 _ from h30 A2 w1 ((hX w1 (h1.holds X memZ)).toR hpb hpl hpa hpe)) ?_; rintro v w2 ⟨a3, c3, rfl, hn⟩; refine LR.back (h1.newSl hn) ?_; clear hn h1))|(apply kq; (· exact rfl); (· intro w1 h1; first | (have hq := CallsTo.q (p31 p A w1 (hR.old h1) hI) h1; rw [hck] at hq; exact hq) | (have hq := CallsTo.q (show CallsTo Tryz.prog 11 [.slice a1 L.length c1, .slice a3 L.length c3] w1 _ from c19 a1 a3 c1 c3 L L w1 (ownsRow_rd (h1.holds (osl (.slice a1 L.length c1) 5 1 L.length (bv L)) memZ)) (ownsRow_rd (h1.holds (osl (.slice a3 L.length c3) 5 1 L.length (bv L)) memZ)) (by omega)) h1; rw [decide_eq_true rfl] at hq; exact hq) | (have hq := CallsTo.q (show CallsTo Tryz.prog 11 [.slice A2.da p.d.msg.body.length A2.dc, .slice A.da p.d.msg.body.length A.dc] w1 _ from c19 A2.da A.da A2.dc A.dc p.d.msg.body p.d.msg.body w1 (hX w1 (h1.holds X memZ)).hd (hR.old h1).hd (by omega)) h1; rw [decide_eq_true rfl] at hq; exact hq) | (have hq := CallsTo.q (show CallsTo Tryz.prog 69 [.slice A2.ta p.t.ask.length A2.tc, .slice A.ta p.t.ask.length A.tc] w1 _ from t19 A2.ta A.ta A2.tc A.tc p.t.ask p.t.ask w1 (hX w1 (h1.holds X memZ)).ht (hR.old h1).ht (by omega)) h1; rw [decide_eq_true rfl] at hq; exact hq)))|((first|refine kR' ?_ ?_|refine kQ' ?_ ?_);all_goals(intro hc;try simp only[hcs]at hc;try(exfalso;first|contradiction|omega))))
  (apply ret1; (· exact rfl); intro w' hS)
  exact ⟨congrArg Value.bool (decide_eq_true rfl), hS.toKeep⟩
end Go.Proofs.YtkolmkdbjagfcaaGreat
