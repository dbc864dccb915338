/-
  Learnt in any order, what is known is the same. Conditions: none.
-/
import Derived.Test.YtgblmkpfkcibiaaRHOM2
import Derived.OpenShut

set_option linter.unusedSimpArgs false
set_option linter.unusedVariables false
namespace Go.Proofs.Ytgblmkpfkcibiaa
open Go.Hb
attribute [local irreducible] LR CW At Ev thn blk finK noG again CallsTo DW QL dnext TW DP gpost
set_option maxRecDepth 100000

theorem m64 (y x : Plc) (bx : Nat) (w : World) (h : Rd w (some ⟨bx, 0, none⟩) x.cells) : CallsTo Try.prog 64 [y.val, .pointer (some ⟨bx, 0, none⟩)] w fun v w' => v = .bool (decide (y.ring = x.ring)) ∧ Grew w w' := by
  refine go_in (n := 9) (St.rd1 h) Try.func64 rfl rfl ?_
  repeat'(first|refine kv' ?_|apply jJ|refine jE' ?_|refine jp' ?_|(apply jc;kernel_rfl)|refine kg' ?_|refine kG' ?_|refine kB' fun _=>?_|refine kA' fun _=>?_|refine kK' fun _=>?_|refine kU' ?_|((first|refine kR' ?_ ?_|refine kQ' ?_ ?_);all_goals(intro hc;try simp only[hcs]at hc;try(exfalso;first|contradiction|omega))))
  (apply ret1; (· exact rfl); intro w' hS)
  exact ⟨rfl, hS.toKeep⟩
theorem m88 (a : Option Addr) (c : Nat) (D : List Plc) (x : Plc) (bx : Nat) (w : World) (hk : Rd w a (pcs D)) (hb : Rd w (some ⟨bx, 0, none⟩) x.cells) (hm : D.length ≤ 140737488355328)
    (i0 : Nat) (h0 : i0 ≤ D.length) (hno : ∀ k, (hk : k < i0) → ¬ (D[k]'(by omega)).ring = x.ring) (hend : (h : i0 < D.length) → (D[i0]'h).ring = x.ring) :
    CallsTo Try.prog 88 [.slice a D.length c, .func (.func 64) #[] #[.pointer (some ⟨bx, 0, none⟩)]] w fun v w' => v = .int .i64 (if i0 < D.length then (i0 : Int) else -1) ∧ Grew w w' := by
  refine go_in (n := 19) ((St.rd1 hk).addRd hb (fun _ _ h => h)) Try.func88 rfl rfl ?_
  repeat'(first|refine kv' ?_|apply jJ|refine jE' ?_|refine jp' ?_|(apply jc;kernel_rfl)|refine kg' ?_|refine kG' ?_|refine kB' fun _=>?_|refine kA' fun _=>?_|refine kK' fun _=>?_|refine kU' ?_|((first|refine kR' ?_ ?_|refine kQ' ?_ ?_);all_goals(intro hc;try simp only[hcs]at hc;try(exfalso;first|contradiction|omega))))
  apply CW.loop [4, 5, 8, 9, 10, 11, 12, 13, 14, 15, 16, 17, 18] (fun i : Nat => i ≤ i0) (fun i => [(8, .int .i64 (i : Int))]) (fun _ => St w NoF [rdA (some ⟨bx, 0, none⟩) x.cells, rdA a (pcs D)]) (fun i => i0 - i)
  · exact fun w' hw' => ⟨0, by omega, ⟨rfl, trivial⟩, hw'⟩
  intro i g hi
  by_cases hlt : i < D.length
  · obtain ⟨ba, oa, rfl⟩ := hk.form (fun e => by have h1 := congrArg List.length e; rw [pcs_length, List.length_nil] at h1; omega)
    obtain ⟨y, hy⟩ : ∃ y, D[i] = y := ⟨_, rfl⟩
    have hly : D[i]? = some y := by rw [List.getElem?_eq_getElem hlt, hy]
    by_cases hx : y.ring = x.ring
    · have hie : i = i0 := by
        rcases Nat.lt_or_ge i i0 with h | h
        · exact absurd (by rw [hy]; exact hx) (hno i h)
        · omega
      subst hie
      rw [if_pos hlt]
      repeat'(first|(apply LR.ev; (· apply Ev.load_agg_at (cs := y.cells); (· exact rfl); (· exact rfl); (· intro w' hw'; refine pcs_cell (x := y) (hw'.rd_of memZ) hly ?_; (· simp; done))); (· exact rfl))|refine kv' ?_|apply jJ|refine jE' ?_|refine jp' ?_|(apply jc;kernel_rfl)|refine kg' ?_|refine kG' ?_|refine kB' fun _=>?_|refine kA' fun _=>?_|refine kK' fun _=>?_|refine kU' ?_|(apply idxX;(iterate 2 exact rfl);(iterate 2(first|omega|(dsimp only;omega)));exact rfl)|(apply LR.qcall_val (g := 64) (cap := [.pointer (some ⟨bx, 0, none⟩)]) (v := .bool true); (· exact rfl); (· exact rfl); (· intro w1 h1; have hq := CallsTo.q (m64 y x bx w1 (h1.rd_of memZ)) h1; rw [decide_eq_true hx] at hq; exact hq))|((first|refine kR' ?_ ?_|refine kQ' ?_ ?_);all_goals(intro hc;try simp only[hcs]at hc;try(exfalso;first|contradiction|omega))))
      (apply ret1; (· exact rfl); intro w' hS)
      exact ⟨rfl, hS.toKeep⟩
    · have hlt2 : i < i0 := by
        rcases Nat.lt_or_ge i i0 with h | h
        · exact h
        · have e : i = i0 := by omega
          subst e
          exact absurd (by rw [← hy]; exact hend hlt) hx
      repeat'(first|(apply LR.ev; (· apply Ev.load_agg_at (cs := y.cells); (· exact rfl); (· exact rfl); (· intro w' hw'; refine pcs_cell (x := y) (hw'.rd_of memZ) hly ?_; (· simp; done))); (· exact rfl))|refine kv' ?_|apply jJ|refine jE' ?_|refine jp' ?_|(apply jc;kernel_rfl)|refine kg' ?_|refine kG' ?_|refine kB' fun _=>?_|refine kA' fun _=>?_|refine kK' fun _=>?_|refine kU' ?_|(apply idxX;(iterate 2 exact rfl);(iterate 2(first|omega|(dsimp only;omega)));exact rfl)|(apply addX;(iterate 2 exact rfl);(iterate 2(first|omega|(dsimp only;omega)));exact rfl)|(apply LR.qcall_val (g := 64) (cap := [.pointer (some ⟨bx, 0, none⟩)]) (v := .bool false); (· exact rfl); (· exact rfl); (· intro w1 h1; have hq := CallsTo.q (m64 y x bx w1 (h1.rd_of memZ)) h1; rw [decide_eq_false hx] at hq; exact hq))|((first|refine kR' ?_ ?_|refine kQ' ?_ ?_);all_goals(intro hc;try simp only[hcs]at hc;try(exfalso;first|contradiction|omega))))
      refine At.again (i + 1) (by omega) ?_ ⟨rfl, trivial⟩ (fun w' hw' => hw') (by omega)
      (repeat (first | exact Out.refl _ _ | exact Out.mix | (apply Out.upd; (· exact rfl)) | (apply Out.updL; (· exact rfl)) | (apply Out.mixs; (· exact rfl))))
  · have hie : i = D.length := by omega
    subst hie
    rw [if_neg (by omega)]
    repeat'(first|refine kv' ?_|apply jJ|refine jE' ?_|refine jp' ?_|(apply jc;kernel_rfl)|refine kg' ?_|refine kG' ?_|refine kB' fun _=>?_|refine kA' fun _=>?_|refine kK' fun _=>?_|refine kU' ?_|((first|refine kR' ?_ ?_|refine kQ' ?_ ?_);all_goals(intro hc;try simp only[hcs]at hc;try(exfalso;first|contradiction|omega))))
    (apply ret1; (· exact rfl); intro w' hS)
    exact ⟨rfl, hS.toKeep⟩
def noP (D : List Plc) (r : Int) : List Plc := D.filter fun y => decide (y.ring ≠ r)
theorem noP_len (D : List Plc) (r : Int) : (noP D r).length ≤ D.length := List.length_filter_le _ _
theorem first_of (D : List Plc) (r : Int) : ∃ i0, i0 ≤ D.length ∧ (∀ k, k < i0 → ∀ y, D[k]? = some y → ¬ y.ring = r) ∧ (∀ y, D[i0]? = some y → y.ring = r) := by
  induction D with
  | nil => exact ⟨0, Nat.le_refl _, fun k hk => by omega, fun y hy => by cases hy⟩
  | cons z D ih =>
    by_cases hz : z.ring = r
    · exact ⟨0, Nat.zero_le _, fun k hk => by omega, fun y hy => by simp at hy; rw [← hy]; exact hz⟩
    · obtain ⟨i, h1, h2, h3⟩ := ih
      refine ⟨i + 1, by simp; omega, fun k hk y hy => ?_, fun y hy => h3 y (by simpa using hy)⟩
      cases k with
      | zero => simp at hy; rw [← hy]; exact hz
      | succ k => exact h2 k (by omega) y (by simpa using hy)
structure DelI (D : List Plc) (r : Int) (j i : Nat) (D' : List Plc) : Prop where
  ij : i < j
  jl : j ≤ D.length
  len : D'.length = D.length
  pre : D'.take i = noP (D.take j) r
  suf : ∀ k, j ≤ k → D'[k]? = D[k]?
theorem DelI.skip {D D' : List Plc} {r : Int} {j i : Nat} (h : DelI D r j i D') (hj : j < D.length) (hx : (D[j]'hj).ring = r) : DelI D r (j + 1) i D' := by
  refine ⟨by have := h.ij; omega, hj, h.len, ?_, fun k hk => h.suf k (by omega)⟩
  rw [h.pre]
  unfold noP
  rw [filter_take D _ hj, if_neg (by simp [hx]), List.append_nil]
theorem DelI.keep {D D' : List Plc} {r : Int} {j i : Nat} (h : DelI D r j i D') (hj : j < D.length) (hx : ¬ (D[j]'hj).ring = r) : DelI D r (j + 1) (i + 1) (D'.set i (D[j]'hj)) := by
  have hij := h.ij
  have hl := h.len
  refine ⟨by omega, hj, by rw [List.length_set]; exact hl, ?_, fun k hk => ?_⟩
  · rw [List.take_add_one, List.getElem?_set_self (by omega), List.take_set_of_le (Nat.le_refl _), h.pre]
    unfold noP
    rw [filter_take D _ hj, if_pos (by simp [hx])]
    rfl
  · rw [List.getElem?_set_ne (by omega)]
    exact h.suf k (by omega)
set_option maxHeartbeats 2000000 in
theorem m63 (a : Option Addr) (c : Nat) (D : List Plc) (x : Plc) (bx : Nat) (w : World) (h : (pN a D.length c D).holds w) (hb : Rd w (some ⟨bx, 0, none⟩) x.cells) (hd : ∀ k, rdFoot (some ⟨bx, 0, none⟩) x.cells k → ¬ (pN a D.length c D).foot k) (hm : D.length ≤ 140737488355328) :
    CallsTo Try.prog 63 [.slice a D.length c, .func (.func 64) #[] #[.pointer (some ⟨bx, 0, none⟩)]] w fun v w' => v = .slice a (noP D x.ring).length c ∧ Step (pN a D.length c D) (pN a (noP D x.ring).length c (noP D x.ring)) w w' := by
  have hown : w.ownsRow 0 44 4 (.slice a D.length c) D.length (pcs D) := h
  have hcap := ownsRow_cap hown
  have hS0 : St w (pN a D.length c D).foot [rdA (some ⟨bx, 0, none⟩) x.cells, pN a D.length c D] w := (St.one h (fun k hk => (World.ownsRow.lt h k hk).2) (osl.dep _ _ _ _ _)).addRd hb hd
  generalize hF : (pN a D.length c D).foot = F at *
  refine go_in (n := 42) hS0 Try.func63 rfl rfl ?_
  obtain ⟨i0, hi0, hno, hend⟩ := first_of D x.ring
  have h88 : ∀ w1, St w F [rdA (some ⟨bx, 0, none⟩) x.cells, pN a D.length c D] w1 → CallsTo Try.prog 88 [.slice a D.length c, .func (.func 64) #[] #[.pointer (some ⟨bx, 0, none⟩)]] w1 fun v w' => v = .int .i64 (if i0 < D.length then (i0 : Int) else -1) ∧ St w F [rdA (some ⟨bx, 0, none⟩) x.cells, pN a D.length c D] w' := fun w1 h1 =>
    CallsTo.q (m88 a c D x bx w1 (h1.rd_of_own memZ) (h1.rd_of memZ) hm i0 hi0 (fun k hk => hno k hk _ (List.getElem?_eq_getElem (by omega))) (fun hh => hend _ (List.getElem?_eq_getElem hh))) h1
  by_cases hlt : i0 < D.length
  rotate_left
  · rw [if_neg hlt] at h88
    have hnn : noP D x.ring = D := by
      unfold noP
      rw [List.filter_eq_self]
      intro y hy
      obtain ⟨k, hk, rfl⟩ := List.getElem_of_mem hy
      have := hno k (by omega) _ (List.getElem?_eq_getElem hk)
      simpa using this
    rw [hnn]
    repeat'(first|refine kv' ?_|apply jJ|refine jE' ?_|refine jp' ?_|(apply jc;kernel_rfl)|refine kg' ?_|refine kG' ?_|refine kB' fun _=>?_|refine kA' fun _=>?_|refine kK' fun _=>?_|refine kU' ?_|(apply kq; (· exact rfl); (· intro w1 h1; exact h88 w1 h1))|((first|refine kR' ?_ ?_|refine kQ' ?_ ?_);all_goals(intro hc;try simp only[hcs]at hc;try(exfalso;first|contradiction|omega))))
    (apply ret1; (· exact rfl); intro w' hS)
    subst hF
    exact ⟨rfl, (hS.sub (L' := [pN a D.length c D]) subZ).step rfl⟩
  rw [if_pos hlt] at h88
  obtain ⟨ba, oa, rfl⟩ := (ownsRow_rd hown).form (fun e => by have h1 := congrArg List.length e; rw [pcs_length, List.length_nil] at h1; omega)
  have hI0 : DelI D x.ring (i0 + 1) i0 D := by
    refine ⟨by omega, by omega, rfl, ?_, fun k hk => rfl⟩
    unfold noP
    rw [filter_take D _ hlt, if_neg (by have := hend _ (List.getElem?_eq_getElem hlt); simp [this]), List.append_nil, eq_comm, List.filter_eq_self]
    intro y hy
    obtain ⟨k, hk, rfl⟩ := List.getElem_of_mem hy
    rw [List.length_take] at hk
    rw [List.getElem_take]
    have := hno k (by omega) _ (List.getElem?_eq_getElem (by omega))
    simpa using this
  repeat'(first|refine kv' ?_|apply jJ|refine jE' ?_|refine jp' ?_|(apply jc;kernel_rfl)|refine kg' ?_|refine kG' ?_|refine kB' fun _=>?_|refine kA' fun _=>?_|refine kK' fun _=>?_|refine kU' ?_|(apply addX;(iterate 2 exact rfl);(iterate 2(first|omega|(dsimp only;omega)));exact rfl)|(apply kq; (· exact rfl); (· intro w1 h1; exact h88 w1 h1))|((first|refine kR' ?_ ?_|refine kQ' ?_ ?_);all_goals(intro hc;try simp only[hcs]at hc;try(exfalso;first|contradiction|omega))))
  apply CW.loop [5, 6, 7, 16, 17, 18, 19, 20, 21, 22, 23, 24, 25, 26, 27, 28, 29, 30, 31, 32, 33, 34, 35] (fun s : Nat × Nat × List Plc => DelI D x.ring s.1 s.2.1 s.2.2) (fun s => [(5, .int .i64 (s.2.1 : Int)), (6, .int .i64 (s.1 : Int))])
    (fun s => St w F [rdA (some ⟨bx, 0, none⟩) x.cells, pN (some ⟨ba, oa, none⟩) D.length c s.2.2]) (fun s => D.length - s.1)
  · exact fun w' hw' => ⟨(i0 + 1, i0, D), hI0, ⟨rfl, rfl, trivial⟩, hw'⟩
  rintro ⟨j, i, D'⟩ g hI
  simp only at hI ⊢
  have hij := hI.ij
  have hjl := hI.jl
  have hDl := hI.len
  by_cases hlt2 : j < D.length
  · obtain ⟨y, hy⟩ : ∃ y, D[j] = y := ⟨_, rfl⟩
    have hly : D'[j]? = some y := by rw [hI.suf j (Nat.le_refl _), List.getElem?_eq_getElem hlt2, hy]
    have hskip := hI.skip hlt2
    have hkeep := hI.keep hlt2
    rw [hy] at hskip hkeep
    by_cases hx : y.ring = x.ring
    · have hskip := hskip hx
      repeat'(first|(apply LR.ev; (· apply Ev.load_agg_at (cs := [Value.int .i64 y.ring, .int .i64 y.seq, .int .i64 y.rep, .int .i64 y.members]); (· exact rfl); (· exact rfl); (· intro w' hw'; refine pcs_cell (x := y) (hw'.rd_of_own memZ) hly ?_; (· simp; done))); (· exact rfl))|refine kv' ?_|apply jJ|refine jE' ?_|refine jp' ?_|(apply jc;kernel_rfl)|refine kg' ?_|refine kG' ?_|refine kB' fun _=>?_|refine kA' fun _=>?_|refine kK' fun _=>?_|refine kU' ?_|(apply idxX;(iterate 2 exact rfl);(iterate 2(first|omega|(dsimp only;omega)));exact rfl)|(apply addX;(iterate 2 exact rfl);(iterate 2(first|omega|(dsimp only;omega)));exact rfl)|(apply LR.qcall_val (g := 64) (cap := [.pointer (some ⟨bx, 0, none⟩)]) (v := .bool true); (· exact rfl); (· exact rfl); (· intro w1 h1; have hq := CallsTo.q (m64 y x bx w1 (h1.rd_of memZ)) h1; rw [decide_eq_true hx] at hq; exact hq))|((first|refine kR' ?_ ?_|refine kQ' ?_ ?_);all_goals(intro hc;try simp only[hcs]at hc;try(exfalso;first|contradiction|omega))))
      refine At.again (j + 1, i, D') hskip ?_ ⟨rfl, rfl, trivial⟩ (fun w' hw' => hw'.sub subZ) (by show D.length - (j + 1) < D.length - j; omega)
      (repeat (first | exact Out.refl _ _ | exact Out.mix | (apply Out.upd; (· exact rfl)) | (apply Out.updL; (· exact rfl)) | (apply Out.mixs; (· exact rfl))))
    · have hkeep := hkeep hx
      repeat'(first|(apply LR.ev; (· apply Ev.load_agg_at (cs := [Value.int .i64 y.ring, .int .i64 y.seq, .int .i64 y.rep, .int .i64 y.members]); (· exact rfl); (· exact rfl); (· intro w' hw'; refine pcs_cell (x := y) (hw'.rd_of_own memZ) hly ?_; (· simp; done))); (· exact rfl))|refine kv' ?_|apply jJ|refine jE' ?_|refine jp' ?_|(apply jc;kernel_rfl)|refine kg' ?_|refine kG' ?_|refine kB' fun _=>?_|refine kA' fun _=>?_|refine kK' fun _=>?_|refine kU' ?_|(apply idxX;(iterate 2 exact rfl);(iterate 2(first|omega|(dsimp only;omega)));exact rfl)|(apply addX;(iterate 2 exact rfl);(iterate 2(first|omega|(dsimp only;omega)));exact rfl)|(apply LR.qcall_val (g := 64) (cap := [.pointer (some ⟨bx, 0, none⟩)]) (v := .bool false); (· exact rfl); (· exact rfl); (· intro w1 h1; have hq := CallsTo.q (m64 y x bx w1 (h1.rd_of memZ)) h1; rw [decide_eq_false hx] at hq; exact hq))|((first|refine kR' ?_ ?_|refine kQ' ?_ ?_);all_goals(intro hc;try simp only[hcs]at hc;try(exfalso;first|contradiction|omega))))
      refine LR.store_obj (v := y.val) rfl rfl (Sel.tail _ (Sel.tail _ (Sel.head _ _ _))) rfl (put_plc (l := D') y (k := i) (by omega) (by omega)) (osl.dep _ _ _ _ _) ?_
      repeat'(first|refine kv' ?_|apply jJ|refine jE' ?_|refine jp' ?_|(apply jc;kernel_rfl)|refine kg' ?_|refine kG' ?_|refine kB' fun _=>?_|refine kA' fun _=>?_|refine kK' fun _=>?_|refine kU' ?_|(apply addX;(iterate 2 exact rfl);(iterate 2(first|omega|(dsimp only;omega)));exact rfl)|((first|refine kR' ?_ ?_|refine kQ' ?_ ?_);all_goals(intro hc;try simp only[hcs]at hc;try(exfalso;first|contradiction|omega))))
      refine At.again (j + 1, i + 1, D'.set i y) hkeep ?_ ⟨?_, rfl, trivial⟩ (fun w' hw' => hw'.sub subZ) (by show D.length - (j + 1) < D.length - j; omega)
      · (repeat (first | exact Out.refl _ _ | exact Out.mix | (apply Out.upd; (· exact rfl)) | (apply Out.updL; (· exact rfl)) | (apply Out.mixs; (· exact rfl))))
      · exact congrArg (Value.int .i64) (show (i : Int) + 1 = ((i + 1 : Nat) : Int) by omega)
  have hje : j = D.length := by omega
  subst hje
  have hpre := hI.pre
  rw [List.take_length] at hpre
  have hil : i = (noP D x.ring).length := by
    have := congrArg List.length hpre
    rw [List.length_take] at this
    omega
  have hsl : Value.slice (subA (some ⟨ba, oa, none⟩) c i 4) (D.length - i) (c - i) = Value.slice (subA (some ⟨ba, oa, none⟩) c i 4) (D.length - i) (c - i) := rfl
  repeat'(first|refine kv' ?_|apply jJ|refine jE' ?_|refine jp' ?_|(apply jc;kernel_rfl)|refine kg' ?_|refine kG' ?_|refine kB' fun _=>?_|refine kA' fun _=>?_|refine kK' fun _=>?_|refine kU' ?_|(apply LR.ev; (· apply Ev.slice_lo; (· exact rfl); (· exact rfl); (· omega); (· omega)); (· exact rfl))|((first|refine kR' ?_ ?_|refine kQ' ?_ ?_);all_goals(intro hc;try simp only[hcs]at hc;try(exfalso;first|contradiction|omega))))
  refine LR.clearN (E := 44) (sz := 4) (zs := [.int .i64 0, .int .i64 0, .int .i64 0, .int .i64 0]) (n := D.length) (c := c) (j := i) (a := some ⟨ba, oa, none⟩) (xs := pcs D') rfl rfl rfl (Sel.tail _ (Sel.head _ _ _)) (by omega) ?_
  repeat'(first|refine kv' ?_|apply jJ|refine jE' ?_|refine jp' ?_|(apply jc;kernel_rfl)|refine kg' ?_|refine kG' ?_|refine kB' fun _=>?_|refine kA' fun _=>?_|refine kK' fun _=>?_|refine kU' ?_|(apply LR.ev; (· apply Ev.slice_hi; (· exact rfl); (· exact rfl); (· omega); (· omega)); (· exact rfl))|((first|refine kR' ?_ ?_|refine kQ' ?_ ?_);all_goals(intro hc;try simp only[hcs]at hc;try(exfalso;first|contradiction|omega))))
  (apply ret1; (· exact rfl); intro w' hS)
  have h2 := St.osl_cut (k := i) hS (Sel.tail _ (Sel.head _ _ _)) (by omega)
  have h3 : ((pcs D').take (i * 4) ++ (List.replicate (D.length - i) [Value.int .i64 0, .int .i64 0, .int .i64 0, .int .i64 0]).flatten).take (i * 4) = pcs (noP D x.ring) := by
    rw [pcs_take D' i (by omega), hpre, List.take_append_of_le_length (by rw [pcs_length]; omega), List.take_of_length_le (by rw [pcs_length]; omega)]
  rw [h3] at h2
  subst hF
  rw [← hil]
  refine ⟨?_, (h2.sub (L' := [pN (some ⟨ba, oa, none⟩) i c (noP D x.ring)]) subZ).step rfl⟩
  show Value.slice (subA (some ⟨ba, oa, none⟩) c 0 4) (i : Int).toNat c = _
  rw [subA0]
  rfl
end Go.Proofs.Ytgblmkpfkcibiaa

namespace Go.Proofs.Ytgblmkpfkcibiaa
open Go.Hb
attribute [local irreducible] LR CW At Ev thn blk finK noG again CallsTo DW QL dnext TW DP gpost
set_option maxRecDepth 100000

theorem lrn_yes {K : List Plc} {x : Plc} (h : takesP K x = true) : lrnL K x = noP K x.ring ++ [x] := by
  unfold lrnL noP
  rw [h]
  congr 1
theorem lrn_no {K : List Plc} {x : Plc} (h : takesP K x = false) : lrnL K x = K := by
  unfold lrnL
  rw [h, if_neg (by simp), List.append_nil, List.filter_eq_self]
  intro y _
  rfl
theorem lrnL_len (K : List Plc) (x : Plc) : (lrnL K x).length ≤ K.length + 1 := by
  cases h : takesP K x with
  | true => rw [lrn_yes h, List.length_append]; have := noP_len K x.ring; simp; omega
  | false => rw [lrn_no h]; omega
set_option maxHeartbeats 2000000 in
theorem m27 {N : Nat} (hN : SortTo N) (K : List Plc) (a : Option Addr) (c : Nat) (x : Plc) (w : World) (hk : Rd w a (pcs K)) (hz : a = none → c = 0) (hm : (K.length + 1) * 32 ≤ 140737488355328) (hKN : K.length + 1 ≤ N) (hxm : i64P x.members) :
    CallsTo Try.prog 27 [.slice a K.length c, x.val] w fun v w' => plR w w' v (lrnP K x) := by
  refine go_in (n := 66) (St.rd1 hk) Try.func27 rfl rfl ?_
  rw [plc_val]
  repeat'(first|(refine kB' fun bx => ?_)|refine kv' ?_|apply jJ|refine jE' ?_|refine jp' ?_|(apply jc;kernel_rfl)|refine kg' ?_|refine kG' ?_|refine kB' fun _=>?_|refine kA' fun _=>?_|refine kK' fun _=>?_|refine kU' ?_|(apply kq; (· exact rfl); (· intro w1 h1; first | exact CallsTo.q (show CallsTo Try.prog 60 [.agg [.int .i64 x.seq, .int .i64 x.rep].toArray] w1 _ from c81 x.seq x.rep w1) h1 | exact CallsTo.q (m61 x.members w1 hxm) h1))|((first|refine kR' ?_ ?_|refine kQ' ?_ ?_);all_goals(intro hc;try simp only[hcs]at hc;try(exfalso;first|contradiction|omega))))
  all_goals (
    apply CW.loop [5, 7, 36, 37, 38, 39, 40, 41, 42, 43, 44, 45, 46, 47, 48, 49, 50, 51, 52, 53] (fun i : Nat => i ≤ K.length) (fun i => [(5, .bool (mayP x && !anyR (K.take i) x)), (36, .int .i64 (i : Int))])
      (fun _ => St w NoF [.own bx (.cells [Value.int .i64 x.ring, .int .i64 x.seq, .int .i64 x.rep, .int .i64 x.members].toArray 44 (0, 0)), rdA a (pcs K)]) (fun i => K.length - i)
    · refine fun w' hw' => ⟨0, by omega, ⟨?_, rfl, trivial⟩, hw'⟩
      refine congrArg Value.bool ?_
      simp only [List.take_zero]
      rw [show anyR [] x = false from rfl]
      unfold mayP
      clear hw' hk
      first | (simp_all; done) | (simp_all; omega)
    intro i g hi
    by_cases hlt : i < K.length
    · obtain ⟨ba, oa, rfl⟩ := hk.form (fun e => by have h1 := congrArg List.length e; rw [pcs_length, List.length_nil] at h1; omega)
      obtain ⟨y, hy⟩ : ∃ y, K[i] = y := ⟨_, rfl⟩
      have hly : K[i]? = some y := by rw [List.getElem?_eq_getElem hlt, hy]
      have hat : anyR (K.take (i + 1)) x = (anyR (K.take i) x || (decide (y.ring = x.ring) && decide (0 ≤ ringsM y.seq y.rep x.seq x.rep))) := by
        unfold anyR
        rw [any_take K _ hlt, hy]
      generalize anyR (K.take i) x = tk at hat ⊢
      repeat'(first|(apply LR.ev; (· apply Ev.load_agg_at (cs := [Value.int .i64 y.ring, .int .i64 y.seq, .int .i64 y.rep, .int .i64 y.members]); (· exact rfl); (· exact rfl); (· intro w' hw'; refine pcs_cell (x := y) (hw'.rd_of memZ) hly ?_; (· simp; done))); (· exact rfl))|refine kv' ?_|apply jJ|refine jE' ?_|refine jp' ?_|(apply jc;kernel_rfl)|refine kg' ?_|refine kG' ?_|refine kB' fun _=>?_|refine kA' fun _=>?_|refine kK' fun _=>?_|refine kU' ?_|(apply idxX;(iterate 2 exact rfl);(iterate 2(first|omega|(dsimp only;omega)));exact rfl)|(apply kq; (· exact rfl); (· intro w1 h1; exact CallsTo.q (m32 y.seq y.rep x.seq x.rep w1) h1))|(apply addX;(iterate 2 exact rfl);(iterate 2(first|omega|(dsimp only;omega)));exact rfl)|((first|refine kR' ?_ ?_|refine kQ' ?_ ?_);all_goals(intro hc;try simp only[hcs]at hc;try(exfalso;first|contradiction|omega))))
      all_goals (
        refine At.again (i + 1) (by omega) ?_ ⟨?_, rfl, trivial⟩ (fun w' hw' => hw'.sub subZ) (by omega)
        · (repeat (first | exact Out.refl _ _ | exact Out.mix | (apply Out.upd; (· exact rfl)) | (apply Out.updL; (· exact rfl)) | (apply Out.mixs; (· exact rfl))))
        · rw [hat]
          first
            | (have h1 : 0 ≤ ringsM y.seq y.rep x.seq x.rep := by assumption
               rw [decide_eq_true h1, decide_eq_true (show y.ring = x.ring by assumption), Bool.and_self, Bool.or_true, Bool.not_true, Bool.and_false]
               rfl)
            | (rw [decide_eq_false (show ¬ y.ring = x.ring by assumption), Bool.false_and, Bool.or_false]; rfl)
            | (rw [decide_eq_false (show ¬ 0 ≤ ringsM y.seq y.rep x.seq x.rep by omega), Bool.and_false, Bool.or_false]; rfl))
    have hie : i = K.length := by omega
    subst hie
    rw [List.take_length]
    show CW _ _ _ _ (updL (mix _ _ _) [(5, Value.bool (takesP K x)), (36, _)]) _
    have hll := lrnL_len K x
    repeat'(first|refine kv' ?_|apply jJ|refine jE' ?_|refine jp' ?_|(apply jc;kernel_rfl)|refine kg' ?_|refine kG' ?_|refine kB' fun _=>?_|refine kA' fun _=>?_|refine kK' fun _=>?_|refine kU' ?_|((first|refine kR' ?_ ?_|refine kQ' ?_ ?_);all_goals(intro hc;try simp only[hcs]at hc;try(exfalso;first|contradiction|omega))))
    apply LR.call
    · exact rfl
    intro w1 h1
    refine (m62 K a c w1 (h1.rd_of memZ) hz (by omega)).mono ?_
    rintro v w2 ⟨a2, c2, rfl, hn⟩
    refine LR.back (h1.newSl hn) ?_
    clear hn h1
    cases htk : takesP K x with
    | false =>
      have hle := lrn_no htk
      unfold lrnP
      rw [hle]
      repeat'(first|refine kv' ?_|apply jJ|refine jE' ?_|refine jp' ?_|(apply jc;kernel_rfl)|refine kg' ?_|refine kG' ?_|refine kB' fun _=>?_|refine kA' fun _=>?_|refine kK' fun _=>?_|refine kU' ?_|((first|refine kR' ?_ ?_|refine kQ' ?_ ?_);all_goals(intro hc;try simp only[hcs]at hc;try(exfalso;first|contradiction|omega))))
      apply LR.call
      · exact rfl
      intro w1 h1
      refine CallsTo.mono (show CallsTo Try.prog 56 [.slice a2 K.length c2] w1 _ from hN a2 c2 K w1 (h1.holds (pN a2 K.length c2 K) memZ) (by omega)) ?_
      rintro v w2 ⟨rfl, st⟩
      refine LR.back (h1.did selZ rfl st (osl.dep _ _ _ _ _)) ?_
      clear st h1
      repeat'(first|refine kv' ?_|apply jJ|refine jE' ?_|refine jp' ?_|(apply jc;kernel_rfl)|refine kg' ?_|refine kG' ?_|refine kB' fun _=>?_|refine kA' fun _=>?_|refine kK' fun _=>?_|refine kU' ?_|((first|refine kR' ?_ ?_|refine kQ' ?_ ?_);all_goals(intro hc;try simp only[hcs]at hc;try(exfalso;first|contradiction|omega))))
      (apply ret1; (· exact rfl); intro w' hS)
      have h9 : pN a2 K.length c2 (isP K) = osl (.slice a2 (isP K).length c2) 44 4 (isP K).length (pcs (isP K)) := by rw [isP_len]
      rw [h9] at hS
      refine ⟨a2, c2, ?_, hS.toNew memZ⟩
      rw [isP_len]
      rfl
    | true =>
      have hle := lrn_yes htk
      unfold lrnP
      rw [hle] at hll ⊢
      rw [List.length_append] at hll
      have hnl := noP_len K x.ring
      repeat'(first|(apply LR.ev (v := Value.func (.func 64) #[] #[.pointer (some ⟨bx, 0, none⟩)]); (· exact Ev.makeFunc (xs := []) (ys := [.tmp 3])); (· exact rfl))|refine kv' ?_|apply jJ|refine jE' ?_|refine jp' ?_|(apply jc;kernel_rfl)|refine kg' ?_|refine kG' ?_|refine kB' fun _=>?_|refine kA' fun _=>?_|refine kK' fun _=>?_|refine kU' ?_|((first|refine kR' ?_ ?_|refine kQ' ?_ ?_);all_goals(intro hc;try simp only[hcs]at hc;try(exfalso;first|contradiction|omega))))
      apply LR.call
      · exact rfl
      intro w1 h1
      have hap := fun z => St.apart (x := pN a2 K.length c2 K) (y := .own bx (.cells [Value.int .i64 x.ring, .int .i64 x.seq, .int .i64 x.rep, .int .i64 x.members].toArray 44 (0, 0))) (h1.sub (L' := [pN a2 K.length c2 K, .own bx (.cells [Value.int .i64 x.ring, .int .i64 x.seq, .int .i64 x.rep, .int .i64 x.members].toArray 44 (0, 0))]) subZ) memZ rfl z
      refine CallsTo.mono (show CallsTo Try.prog 63 [.slice a2 K.length c2, .func (.func 64) #[] #[.pointer (some ⟨bx, 0, none⟩)]] w1 _ from m63 a2 c2 K x bx w1 (h1.holds (pN a2 K.length c2 K) memZ) (h1.rd_of_blk memZ) (fun z hz hf => by
        obtain ⟨_, ad, e, hz'⟩ := hz
        cases e
        exact hap z hf hz') (by omega)) ?_
      rintro v w2 ⟨rfl, st⟩
      refine LR.back (h1.did selZ rfl st (osl.dep _ _ _ _ _)) ?_
      clear st h1 hap
      generalize noP K x.ring = O at hll hnl ⊢
      repeat'(first|(apply Go.Hb.kK;(iterate 4 exact rfl);intro bs)|refine kv' ?_|apply jJ|refine jE' ?_|refine jp' ?_|(apply jc;kernel_rfl)|refine kg' ?_|refine kG' ?_|refine kB' fun _=>?_|refine kA' fun _=>?_|refine kK' fun _=>?_|refine kU' ?_|(apply LR.append (xs := pcs O) (news := x.cells) (m := 1); (· exact rfl); (· exact rfl); (· intro a' c'; (repeat (first | exact sH _ _ _ | apply sT))); (· exact fun w' hw' => hw'.rd_of_blk (mH _ _)); (· exact fun hx => by cases hx); (· exact rfl); (· exact rfl); (· omega); (· unfold maxLen; omega); (· exact rfl); (intro a3 c3))|((first|refine kR' ?_ ?_|refine kQ' ?_ ?_);all_goals(intro hc;try simp only[hcs]at hc;try(exfalso;first|contradiction|omega))))
      apply LR.call
      · exact rfl
      intro w1 h1
      have hsn : osl (.slice a3 (O.length + 1) c3) 44 4 (O.length + 1) (pcs O ++ x.cells) = pN a3 (O ++ [x]).length c3 (O ++ [x]) := pN_snoc.symm
      rw [hsn] at h1
      have hxl : (O ++ [x]).length = O.length + 1 := by simp
      rw [← hxl]
      refine CallsTo.mono (show CallsTo Try.prog 56 [.slice a3 (O ++ [x]).length c3] w1 _ from hN a3 c3 (O ++ [x]) w1 (h1.holds (pN a3 (O ++ [x]).length c3 (O ++ [x])) memZ) (by omega)) ?_
      rintro v w2 ⟨rfl, st⟩
      refine LR.back (h1.did selZ rfl st (osl.dep _ _ _ _ _)) ?_
      clear st h1
      repeat'(first|refine kv' ?_|apply jJ|refine jE' ?_|refine jp' ?_|(apply jc;kernel_rfl)|refine kg' ?_|refine kG' ?_|refine kB' fun _=>?_|refine kA' fun _=>?_|refine kK' fun _=>?_|refine kU' ?_|((first|refine kR' ?_ ?_|refine kQ' ?_ ?_);all_goals(intro hc;try simp only[hcs]at hc;try(exfalso;first|contradiction|omega))))
      (apply ret1; (· exact rfl); intro w' hS)
      have h9 : pN a3 (O ++ [x]).length c3 (isP (O ++ [x])) = osl (.slice a3 (isP (O ++ [x])).length c3) 44 4 (isP (O ++ [x])).length (pcs (isP (O ++ [x]))) := by rw [isP_len]
      rw [h9] at hS
      refine ⟨a3, c3, ?_, hS.toNew memZ⟩
      rw [isP_len]
      rfl)
end Go.Proofs.Ytgblmkpfkcibiaa

namespace Go.Proofs.Ytgblmkpfkcibiaa
open Go.Hb
attribute [local irreducible] LR CW At Ev thn blk finK noG again CallsTo DW QL dnext TW DP gpost
set_option maxRecDepth 100000

instance : DecidableEq Plc := fun a b =>
  if h : a.ring = b.ring ∧ a.seq = b.seq ∧ a.rep = b.rep ∧ a.members = b.members then isTrue (by cases a; cases b; simp_all)
  else isFalse (fun e => h (by subst e; exact ⟨rfl, rfl, rfl, rfl⟩))
theorem plc_eq (a b : Plc) : decide ([a.ring, a.seq, a.rep, a.members] = [b.ring, b.seq, b.rep, b.members]) = decide (a = b) := by
  rw [decide_eq_decide]
  cases a; cases b; simp
set_option maxHeartbeats 1000000 in
theorem m25 (a b : Option Addr) (ca cb : Nat) (la lb : List Plc) (w : World) (ha : Rd w a (pcs la)) (hb : Rd w b (pcs lb)) (hm : la.length ≤ 17592186043904) :
    CallsTo Try.prog 25 [.slice a la.length ca, .slice b lb.length cb] w fun v w' => v = .bool (decide (la = lb)) ∧ Grew w w' := by
  refine go_in (n := 26) (St.rd2 ha hb) Try.func25 rfl rfl ?_
  by_cases hl : la.length = lb.length
  rotate_left
  · repeat'(first|refine kv' ?_|apply jJ|refine jE' ?_|refine jp' ?_|(apply jc;kernel_rfl)|refine kg' ?_|refine kG' ?_|refine kB' fun _=>?_|refine kA' fun _=>?_|refine kK' fun _=>?_|refine kU' ?_|((first|refine kR' ?_ ?_|refine kQ' ?_ ?_);all_goals(intro hc;try simp only[hcs]at hc;try(exfalso;first|contradiction|omega))))
    (apply ret1; (· exact rfl); intro w' hS)
    refine ⟨congrArg Value.bool ?_, hS.toKeep⟩
    have : la ≠ lb := fun e => hl (by rw [e])
    simp [this]
  repeat'(first|refine kv' ?_|apply jJ|refine jE' ?_|refine jp' ?_|(apply jc;kernel_rfl)|refine kg' ?_|refine kG' ?_|refine kB' fun _=>?_|refine kA' fun _=>?_|refine kK' fun _=>?_|refine kU' ?_|((first|refine kR' ?_ ?_|refine kQ' ?_ ?_);all_goals(intro hc;try simp only[hcs]at hc;try(exfalso;first|contradiction|omega))))
  apply CW.loop [4, 5, 11, 12, 13, 14, 15, 16, 17, 18, 19, 20, 21, 22, 23, 24, 25] (fun i : Nat => i ≤ la.length ∧ la.take i = lb.take i) (fun i : Nat => [(5, Value.int .i64 i)]) (fun i => St w NoF [rdA a (pcs la), rdA b (pcs lb)]) (fun i => la.length - i)
  · exact fun w' hw' => ⟨0, ⟨by omega, by simp⟩, ⟨rfl, trivial⟩, hw'⟩
  intro i g ⟨hi, heq⟩
  by_cases hlt : i < la.length
  · obtain ⟨ba, oa, rfl⟩ := ha.form (fun e => by have h1 := congrArg List.length e; rw [pcs_length, List.length_nil] at h1; omega)
    obtain ⟨bb, ob, rfl⟩ := hb.form (fun e => by have h1 := congrArg List.length e; rw [pcs_length, List.length_nil] at h1; omega)
    have hlb : i < lb.length := by omega
    obtain ⟨x, hx⟩ : ∃ x, la[i] = x := ⟨_, rfl⟩
    obtain ⟨y, hy⟩ : ∃ y, lb[i] = y := ⟨_, rfl⟩
    have hlx : la[i]? = some x := by rw [List.getElem?_eq_getElem hlt, hx]
    have hly : lb[i]? = some y := by rw [List.getElem?_eq_getElem hlb, hy]
    have hpe := plc_eq x y
    repeat'(first|(apply LR.ev; (· apply Ev.load_agg_at (cs := [Value.int .i64 x.ring, .int .i64 x.seq, .int .i64 x.rep, .int .i64 x.members]); (· exact rfl); (· exact rfl); (· intro w' hw'; refine pcs_cell (x := x) (hw'.rd_of (mH _ _)) hlx ?_; (· simp; done))); (· exact rfl))|(apply LR.ev; (· apply Ev.load_agg_at (cs := [Value.int .i64 y.ring, .int .i64 y.seq, .int .i64 y.rep, .int .i64 y.members]); (· exact rfl); (· exact rfl); (· intro w' hw'; refine pcs_cell (x := y) (hw'.rd_of (mT _ (mH _ _))) hly ?_; (· simp; done))); (· exact rfl))|refine kv' ?_|apply jJ|refine jE' ?_|refine jp' ?_|(apply jc;kernel_rfl)|refine kg' ?_|refine kG' ?_|refine kB' fun _=>?_|refine kA' fun _=>?_|refine kK' fun _=>?_|refine kU' ?_|(apply idxX;(iterate 2 exact rfl);(iterate 2(first|omega|(dsimp only;omega)));exact rfl)|(apply addX;(iterate 2 exact rfl);(iterate 2(first|omega|(dsimp only;omega)));exact rfl)|((first|refine kR' ?_ ?_|refine kQ' ?_ ?_);all_goals(intro hc;try simp only[hcs]at hc;try(exfalso;first|contradiction|omega))))
    · (apply ret1; (· exact rfl); intro w' hS)
      refine ⟨congrArg Value.bool ?_, hS.toKeep⟩
      have : la ≠ lb := fun e => by
        subst e
        rw [hlx] at hly
        cases hly
        simp_all
      simp [this]
    · refine At.again (i + 1) ⟨by omega, ?_⟩ ?_ ⟨rfl, trivial⟩ (fun w' hw' => hw') (by omega)
      · have hxy : x = y := by cases x; cases y; simp_all
        rw [List.take_add_one, List.take_add_one, hlx, hly, heq, hxy]
      · (repeat (first | exact Out.refl _ _ | exact Out.mix | (apply Out.upd; (· exact rfl)) | (apply Out.updL; (· exact rfl)) | (apply Out.mixs; (· exact rfl))))
  · have hie : i = la.length := by omega
    subst hie
    repeat'(first|refine kv' ?_|apply jJ|refine jE' ?_|refine jp' ?_|(apply jc;kernel_rfl)|refine kg' ?_|refine kG' ?_|refine kB' fun _=>?_|refine kA' fun _=>?_|refine kK' fun _=>?_|refine kU' ?_|((first|refine kR' ?_ ?_|refine kQ' ?_ ?_);all_goals(intro hc;try simp only[hcs]at hc;try(exfalso;first|contradiction|omega))))
    (apply ret1; (· exact rfl); intro w' hS)
    refine ⟨congrArg Value.bool ?_, hS.toKeep⟩
    rw [List.take_length, hl, List.take_length] at heq
    simp [heq]
def threeP : Pln := ⟨[14, 56, 96], [⟨3, 0, 1⟩, ⟨5, 1, 2⟩]⟩
def threeA (b1 b2 : Nat) : PlA := ⟨some ⟨b1, 0, none⟩, 3, some ⟨b2, 0, none⟩, 2⟩
abbrev thr1 (b1 : Nat) : Asrt := .own b1 (.cells (iv [14, 56, 96]).toArray 3 (0, 0))
abbrev thr2 (b2 : Nat) : Asrt := .own b2 (.cells (gv [⟨3, 0, 1⟩, ⟨5, 1, 2⟩]).toArray 34 (0, 0))
theorem m33 (w : World) : CallsTo Try.prog 33 [] w fun v w' => ∃ b1 b2, v = threeP.val (threeA b1 b2) ∧ New1 (both (thr1 b1) (thr2 b2)) w w' := by
  refine go_in (n := 6) (St.refl _ NoF) Try.func33 rfl rfl ?_
  repeat'(first|(refine kK' (T := 22) fun b1 => ?_)|(refine kK' (T := 23) fun b2 => ?_)|refine kv' ?_|apply jJ|refine jE' ?_|refine jp' ?_|(apply jc;kernel_rfl)|refine kg' ?_|refine kG' ?_|refine kB' fun _=>?_|refine kA' fun _=>?_|refine kK' fun _=>?_|refine kU' ?_|((first|refine kR' ?_ ?_|refine kQ' ?_ ?_);all_goals(intro hc;try simp only[hcs]at hc;try(exfalso;first|contradiction|omega))))
  (apply ret1c; (· exact rfl); (· exact inferInstance); (· exact rfl); (· (repeat (first | exact List.Mem.head _ | apply List.Mem.tail))); (· exact rfl); intro w' hS)
  refine ⟨b1, b2, rfl, ?_⟩
  have h1 : St w NoF [thr1 b1, thr2 b2] w' := (hS.sub (L' := [thr2 b2, thr1 b1]) subZ).swap
  exact (h1.join rfl rfl).new1 rfl
def plcA (ring members : Int) : Plc := ⟨ring, 1 + ring, 1, members⟩
theorem m34 (ring members : Int) (w : World) (h : -1000 ≤ ring ∧ ring ≤ 1000) : CallsTo Try.prog 34 [.int .i64 ring, .int .i64 members] w fun v w' => v = (plcA ring members).val ∧ Grew w w' := by
  refine go_in (n := 11) (St.refl _ NoF) Try.func34 rfl rfl ?_
  repeat'(first|refine kv' ?_|apply jJ|refine jE' ?_|refine jp' ?_|(apply jc;kernel_rfl)|refine kg' ?_|refine kG' ?_|refine kB' fun _=>?_|refine kA' fun _=>?_|refine kK' fun _=>?_|refine kU' ?_|(apply addX;(iterate 2 exact rfl);(iterate 2(first|omega|(dsimp only;omega)));exact rfl)|((first|refine kR' ?_ ?_|refine kQ' ?_ ?_);all_goals(intro hc;try simp only[hcs]at hc;try(exfalso;first|contradiction|omega))))
  (apply ret1c; (· exact rfl); (· exact inferInstance); (· exact rfl); (· (repeat (first | exact List.Mem.head _ | apply List.Mem.tail))); (· exact rfl); intro w' hS)
  exact ⟨rfl, hS.toKeep⟩
theorem own_rdM {b : Nat} {cs : List Value} {E : Nat} {w : World} (h : (Asrt.own b (.cells cs.toArray E (0, 0))).holds w) : Rd w (some ⟨b, 0, none⟩) cs := fun j v hj => ⟨_, rfl, by rw [addr_add, cell_own h]; simpa using hj⟩
theorem threeI : PlI threeP := ⟨by decide, by decide, by decide⟩
theorem thR {w : World} {b1 b2 : Nat} (h : (both (thr1 b1) (thr2 b2)).holds w) : PlR w threeP (threeA b1 b2) := ⟨own_rdM h.1, own_rdM h.2.1⟩
theorem th_dep {b1 b2 : Nat} : (both (thr1 b1) (thr2 b2)).dep := both_dep (Asrt.dep_own _ _) (Asrt.dep_own _ _)
section
variable {P : Program} {C : World → Prop} {f : Frm} {T T' E : TypeId} {x y : Operand} {sz by_ b o k c : Nat} {q : IntKind} {j : Int}
theorem Ev_hi [h : SliceOf P T E sz by_] (hx : f.ev x = .slice (some ⟨b, o, none⟩) k c) (hy : f.ev y = .int q j) (h0 : 0 ≤ j) (h1 : j ≤ c) : Ev P C f (.slice T x none (some y) none) T' (.slice (some ⟨b, o, none⟩) j.toNat c) := by
  have := Ev.slice_hi (C := C) (T := T) (T' := T') (h := h) hx hy h0 h1
  rwa [subA0] at this
theorem Ev_lo [h : SliceOf P T E sz by_] (hx : f.ev x = .slice (some ⟨b, o, none⟩) k c) (hy : f.ev y = .int q j) (h0 : 0 ≤ j) (h1 : j ≤ k) (h2 : ¬ c = j.toNat) : Ev P C f (.slice T x (some y) none none) T' (.slice (some ⟨b, o + j.toNat * sz, none⟩) (k - j.toNat) (c - j.toNat)) := by
  have := Ev.slice_lo (C := C) (T := T) (T' := T') (h := h) hx hy h0 h1
  unfold subA at this
  rw [if_neg h2] at this
  simpa [addr_add] using this
end
def knownW : List Plc := [plcA 0 14, plcA 1 24, plcA 2 96]
theorem w_chk : chkP threeP.R threeP.G = true := by decide +kernel
theorem w_far : farT threeP.R threeP.G 3 0 = some 1 := by decide +kernel
theorem w_sides : sidesT threeP.R threeP.G 3 = [0, 1] := by decide +kernel
theorem w_gws : gwsT threeP.R threeP.G 1 = [3, 5] := by decide +kernel
theorem w_view0 : viewP (threeP.R, threeP.G) 0 knownW = [plcA 0 14, plcA 1 24] := by decide +kernel
theorem w_view2 : viewP (threeP.R, threeP.G) 2 knownW = [plcA 2 96] := by decide +kernel
theorem w_lrn : lrnP [] (plcA 1 24) = [plcA 1 24] := by decide +kernel
theorem rd_from8 {w : World} {b : Nat} (h : Rd w (some ⟨b, 0, none⟩) (pcs knownW)) : Rd w (some ⟨b, 8, none⟩) (pcs [plcA 2 96]) := by
  intro j v hj
  have h2 := h.cell (j := 8 + j) (v := v) (by rw [show pcs knownW = pcs [plcA 0 14, plcA 1 24] ++ pcs [plcA 2 96] from rfl, List.getElem?_append_right (by show 8 ≤ 8 + j; omega), show 8 + j - (pcs [plcA 0 14, plcA 1 24]).length = j by show 8 + j - 8 = j; omega]; exact hj)
  exact ⟨_, rfl, by rw [addr_add]; rwa [Nat.zero_add] at h2⟩
set_option maxHeartbeats 4000000 in
theorem m22 (w : World) : CallsTo Try.prog 22 [] w fun v w' => v = .bool true ∧ Grew w w' := by
  refine go_in (n := 57) (St.refl _ NoF) Try.func22 rfl rfl ?_
  repeat'(first|(apply CW.reg_heldC)|(refine kK' (T := 37) fun bk => ?_)|refine kv' ?_|apply jJ|refine jE' ?_|refine jp' ?_|(apply jc;kernel_rfl)|refine kg' ?_|refine kG' ?_|refine kB' fun _=>?_|refine kA' fun _=>?_|refine kK' fun _=>?_|refine kU' ?_|(apply kq; (· exact rfl); (· intro w1 h1; first | (have hq := CallsTo.q (m13 threeP (threeA b1 b2) w1 (thR (h1.holds (both (thr1 b1) (thr2 b2)) memZ)) threeI) h1; rw [w_chk] at hq; exact hq) | (have hq := CallsTo.q (m15 threeP (threeA b1 b2) 3 0 w1 (thR (h1.holds (both (thr1 b1) (thr2 b2)) memZ)) threeI) h1; rw [w_far] at hq; exact hq) | exact CallsTo.q (m34 0 14 w1 (by decide)) h1 | exact CallsTo.q (m34 1 24 w1 (by decide)) h1 | exact CallsTo.q (m34 2 96 w1 (by decide)) h1 | exact CallsTo.q (show CallsTo Try.prog 17 [.slice a7 2 c7, .slice _ 2 2] w1 _ from t19 a7 _ c7 2 [0, 1] [0, 1] w1 (h1.rd_of_own memZ) (h1.rd_of_blk memZ) (by decide)) h1 | exact CallsTo.q (show CallsTo Try.prog 17 [.slice a8 2 c8, .slice _ 2 2] w1 _ from t19 a8 _ c8 2 [3, 5] [3, 5] w1 (h1.rd_of_own memZ) (h1.rd_of_blk memZ) (by decide)) h1 | exact CallsTo.q (show CallsTo Try.prog 25 [.slice a9 2 c9, .slice (some ⟨bk, 0, none⟩) 2 3] w1 _ from m25 a9 (some ⟨bk, 0, none⟩) c9 3 [plcA 0 14, plcA 1 24] [plcA 0 14, plcA 1 24] w1 (h1.rd_of_own memZ) (Rd.take 8 (h1.rd_of_blk (b := bk) (cs := pcs knownW) memZ)) (by decide)) h1 | exact CallsTo.q (show CallsTo Try.prog 25 [.slice a9 1 c9, .slice (some ⟨bk, 8, none⟩) 1 1] w1 _ from m25 a9 (some ⟨bk, 8, none⟩) c9 1 [plcA 2 96] [plcA 2 96] w1 (h1.rd_of_own memZ) (rd_from8 (h1.rd_of_blk (b := bk) (cs := pcs knownW) memZ)) (by decide)) h1))|(apply LR.call; (· exact rfl); (intro w1 h1; first | (refine CallsTo.mono (show CallsTo Try.prog 33 [] w1 _ from m33 w1) ?_; rintro v w2 ⟨b1, b2, rfl, hn⟩; refine LR.back (h1.got hn th_dep) ?_; clear hn h1) | (refine CallsTo.mono (show CallsTo Try.prog 18 [threeP.val (threeA b1 b2), .int .i64 3] w1 _ from m18 threeP (threeA b1 b2) 3 w1 (thR (h1.holds (both (thr1 b1) (thr2 b2)) memZ)) threeI) ?_; rintro v w2 ⟨a7, c7, rfl, hn⟩; rw [w_sides] at hn ⊢; refine LR.back (h1.newSl hn) ?_; clear hn h1) | (refine CallsTo.mono (show CallsTo Try.prog 20 [threeP.val (threeA b1 b2), .int .i64 1] w1 _ from m20 threeP (threeA b1 b2) 1 w1 (thR (h1.holds (both (thr1 b1) (thr2 b2)) memZ)) threeI) ?_; rintro v w2 ⟨a8, c8, rfl, hn⟩; rw [w_gws] at hn ⊢; refine LR.back (h1.newSl hn) ?_; clear hn h1) | (refine CallsTo.mono (show CallsTo Try.prog 24 [threeP.val (threeA b1 b2), .int .i64 0, .slice (some ⟨bk, 0, none⟩) 3 3] w1 _ from m24 threeP (threeA b1 b2) threeI 0 knownW (some ⟨bk, 0, none⟩) 3 w1 (thR (h1.holds (both (thr1 b1) (thr2 b2)) memZ)) (h1.rd_of_blk memZ) (by decide)) ?_; rintro v w2 ⟨a9, c9, rfl, hn⟩; rw [w_view0] at hn ⊢; refine LR.back (h1.newSl hn) ?_; clear hn h1) | (refine CallsTo.mono (show CallsTo Try.prog 24 [threeP.val (threeA b1 b2), .int .i64 2, .slice (some ⟨bk, 0, none⟩) 3 3] w1 _ from m24 threeP (threeA b1 b2) threeI 2 knownW (some ⟨bk, 0, none⟩) 3 w1 (thR (h1.holds (both (thr1 b1) (thr2 b2)) memZ)) (h1.rd_of_blk memZ) (by decide)) ?_; rintro v w2 ⟨a9, c9, rfl, hn⟩; rw [w_view2] at hn ⊢; refine LR.back (h1.newSl hn) ?_; clear hn h1) | (refine CallsTo.mono (show CallsTo Try.prog 27 [.slice none 0 0, (plcA 1 24).val] w1 _ from m27 sort_few [] none 0 (plcA 1 24) w1 (Rd.nil _ _) (fun _ => rfl) (by decide) (by decide) (by decide)) ?_; rintro v w2 ⟨a10, c10, rfl, hn⟩; rw [w_lrn] at hn ⊢; refine LR.back (h1.newSl hn) ?_; clear hn h1)))|((first|refine kR' ?_ ?_|refine kQ' ?_ ?_);all_goals(intro hc;try simp only[hcs]at hc;try(exfalso;first|contradiction|omega))))
  all_goals (
    apply DW.loud 0
    · exact rfl
    · decide +kernel
    repeat'(first|refine kg' ?_|refine kG' ?_|apply kM|refine kv' ?_|refine kK' fun _=>?_|refine kU' ?_|refine kB' fun _=>?_|refine kA' fun _=>?_|(apply kq; (· exact rfl); (· intro w1 h1; first | (have hq := CallsTo.q (m13 threeP (threeA b1 b2) w1 (thR (h1.holds (both (thr1 b1) (thr2 b2)) memZ)) threeI) h1; rw [w_chk] at hq; exact hq) | (have hq := CallsTo.q (m15 threeP (threeA b1 b2) 3 0 w1 (thR (h1.holds (both (thr1 b1) (thr2 b2)) memZ)) threeI) h1; rw [w_far] at hq; exact hq) | exact CallsTo.q (m34 0 14 w1 (by decide)) h1 | exact CallsTo.q (m34 1 24 w1 (by decide)) h1 | exact CallsTo.q (m34 2 96 w1 (by decide)) h1 | exact CallsTo.q (show CallsTo Try.prog 17 [.slice a7 2 c7, .slice _ 2 2] w1 _ from t19 a7 _ c7 2 [0, 1] [0, 1] w1 (h1.rd_of_own memZ) (h1.rd_of_blk memZ) (by decide)) h1 | exact CallsTo.q (show CallsTo Try.prog 17 [.slice a8 2 c8, .slice _ 2 2] w1 _ from t19 a8 _ c8 2 [3, 5] [3, 5] w1 (h1.rd_of_own memZ) (h1.rd_of_blk memZ) (by decide)) h1 | exact CallsTo.q (show CallsTo Try.prog 25 [.slice a9 2 c9, .slice (some ⟨bk, 0, none⟩) 2 3] w1 _ from m25 a9 (some ⟨bk, 0, none⟩) c9 3 [plcA 0 14, plcA 1 24] [plcA 0 14, plcA 1 24] w1 (h1.rd_of_own memZ) (Rd.take 8 (h1.rd_of_blk (b := bk) (cs := pcs knownW) memZ)) (by decide)) h1 | exact CallsTo.q (show CallsTo Try.prog 25 [.slice a9 1 c9, .slice (some ⟨bk, 8, none⟩) 1 1] w1 _ from m25 a9 (some ⟨bk, 8, none⟩) c9 1 [plcA 2 96] [plcA 2 96] w1 (h1.rd_of_own memZ) (rd_from8 (h1.rd_of_blk (b := bk) (cs := pcs knownW) memZ)) (by decide)) h1))|(apply LR.call; (· exact rfl); (intro w1 h1; first | (refine CallsTo.mono (show CallsTo Try.prog 33 [] w1 _ from m33 w1) ?_; rintro v w2 ⟨b1, b2, rfl, hn⟩; refine LR.back (h1.got hn th_dep) ?_; clear hn h1) | (refine CallsTo.mono (show CallsTo Try.prog 18 [threeP.val (threeA b1 b2), .int .i64 3] w1 _ from m18 threeP (threeA b1 b2) 3 w1 (thR (h1.holds (both (thr1 b1) (thr2 b2)) memZ)) threeI) ?_; rintro v w2 ⟨a7, c7, rfl, hn⟩; rw [w_sides] at hn ⊢; refine LR.back (h1.newSl hn) ?_; clear hn h1) | (refine CallsTo.mono (show CallsTo Try.prog 20 [threeP.val (threeA b1 b2), .int .i64 1] w1 _ from m20 threeP (threeA b1 b2) 1 w1 (thR (h1.holds (both (thr1 b1) (thr2 b2)) memZ)) threeI) ?_; rintro v w2 ⟨a8, c8, rfl, hn⟩; rw [w_gws] at hn ⊢; refine LR.back (h1.newSl hn) ?_; clear hn h1) | (refine CallsTo.mono (show CallsTo Try.prog 24 [threeP.val (threeA b1 b2), .int .i64 0, .slice (some ⟨bk, 0, none⟩) 3 3] w1 _ from m24 threeP (threeA b1 b2) threeI 0 knownW (some ⟨bk, 0, none⟩) 3 w1 (thR (h1.holds (both (thr1 b1) (thr2 b2)) memZ)) (h1.rd_of_blk memZ) (by decide)) ?_; rintro v w2 ⟨a9, c9, rfl, hn⟩; rw [w_view0] at hn ⊢; refine LR.back (h1.newSl hn) ?_; clear hn h1) | (refine CallsTo.mono (show CallsTo Try.prog 24 [threeP.val (threeA b1 b2), .int .i64 2, .slice (some ⟨bk, 0, none⟩) 3 3] w1 _ from m24 threeP (threeA b1 b2) threeI 2 knownW (some ⟨bk, 0, none⟩) 3 w1 (thR (h1.holds (both (thr1 b1) (thr2 b2)) memZ)) (h1.rd_of_blk memZ) (by decide)) ?_; rintro v w2 ⟨a9, c9, rfl, hn⟩; rw [w_view2] at hn ⊢; refine LR.back (h1.newSl hn) ?_; clear hn h1) | (refine CallsTo.mono (show CallsTo Try.prog 27 [.slice none 0 0, (plcA 1 24).val] w1 _ from m27 sort_few [] none 0 (plcA 1 24) w1 (Rd.nil _ _) (fun _ => rfl) (by decide) (by decide) (by decide)) ?_; rintro v w2 ⟨a10, c10, rfl, hn⟩; rw [w_lrn] at hn ⊢; refine LR.back (h1.newSl hn) ?_; clear hn h1))))
    all_goals (refine At.stage_same (fun _ h => St.sub h subZ) ?_))
  all_goals (
    apply DW.loud 1
    · exact rfl
    · decide +kernel
    repeat'(first|refine kg' ?_|refine kG' ?_|apply kM|refine kv' ?_|refine kK' fun _=>?_|refine kU' ?_|refine kB' fun _=>?_|refine kA' fun _=>?_|(apply kq; (· exact rfl); (· intro w1 h1; first | (have hq := CallsTo.q (m13 threeP (threeA b1 b2) w1 (thR (h1.holds (both (thr1 b1) (thr2 b2)) memZ)) threeI) h1; rw [w_chk] at hq; exact hq) | (have hq := CallsTo.q (m15 threeP (threeA b1 b2) 3 0 w1 (thR (h1.holds (both (thr1 b1) (thr2 b2)) memZ)) threeI) h1; rw [w_far] at hq; exact hq) | exact CallsTo.q (m34 0 14 w1 (by decide)) h1 | exact CallsTo.q (m34 1 24 w1 (by decide)) h1 | exact CallsTo.q (m34 2 96 w1 (by decide)) h1 | exact CallsTo.q (show CallsTo Try.prog 17 [.slice a7 2 c7, .slice _ 2 2] w1 _ from t19 a7 _ c7 2 [0, 1] [0, 1] w1 (h1.rd_of_own memZ) (h1.rd_of_blk memZ) (by decide)) h1 | exact CallsTo.q (show CallsTo Try.prog 17 [.slice a8 2 c8, .slice _ 2 2] w1 _ from t19 a8 _ c8 2 [3, 5] [3, 5] w1 (h1.rd_of_own memZ) (h1.rd_of_blk memZ) (by decide)) h1 | exact CallsTo.q (show CallsTo Try.prog 25 [.slice a9 2 c9, .slice (some ⟨bk, 0, none⟩) 2 3] w1 _ from m25 a9 (some ⟨bk, 0, none⟩) c9 3 [plcA 0 14, plcA 1 24] [plcA 0 14, plcA 1 24] w1 (h1.rd_of_own memZ) (Rd.take 8 (h1.rd_of_blk (b := bk) (cs := pcs knownW) memZ)) (by decide)) h1 | exact CallsTo.q (show CallsTo Try.prog 25 [.slice a9 1 c9, .slice (some ⟨bk, 8, none⟩) 1 1] w1 _ from m25 a9 (some ⟨bk, 8, none⟩) c9 1 [plcA 2 96] [plcA 2 96] w1 (h1.rd_of_own memZ) (rd_from8 (h1.rd_of_blk (b := bk) (cs := pcs knownW) memZ)) (by decide)) h1))|(apply LR.call; (· exact rfl); (intro w1 h1; first | (refine CallsTo.mono (show CallsTo Try.prog 33 [] w1 _ from m33 w1) ?_; rintro v w2 ⟨b1, b2, rfl, hn⟩; refine LR.back (h1.got hn th_dep) ?_; clear hn h1) | (refine CallsTo.mono (show CallsTo Try.prog 18 [threeP.val (threeA b1 b2), .int .i64 3] w1 _ from m18 threeP (threeA b1 b2) 3 w1 (thR (h1.holds (both (thr1 b1) (thr2 b2)) memZ)) threeI) ?_; rintro v w2 ⟨a7, c7, rfl, hn⟩; rw [w_sides] at hn ⊢; refine LR.back (h1.newSl hn) ?_; clear hn h1) | (refine CallsTo.mono (show CallsTo Try.prog 20 [threeP.val (threeA b1 b2), .int .i64 1] w1 _ from m20 threeP (threeA b1 b2) 1 w1 (thR (h1.holds (both (thr1 b1) (thr2 b2)) memZ)) threeI) ?_; rintro v w2 ⟨a8, c8, rfl, hn⟩; rw [w_gws] at hn ⊢; refine LR.back (h1.newSl hn) ?_; clear hn h1) | (refine CallsTo.mono (show CallsTo Try.prog 24 [threeP.val (threeA b1 b2), .int .i64 0, .slice (some ⟨bk, 0, none⟩) 3 3] w1 _ from m24 threeP (threeA b1 b2) threeI 0 knownW (some ⟨bk, 0, none⟩) 3 w1 (thR (h1.holds (both (thr1 b1) (thr2 b2)) memZ)) (h1.rd_of_blk memZ) (by decide)) ?_; rintro v w2 ⟨a9, c9, rfl, hn⟩; rw [w_view0] at hn ⊢; refine LR.back (h1.newSl hn) ?_; clear hn h1) | (refine CallsTo.mono (show CallsTo Try.prog 24 [threeP.val (threeA b1 b2), .int .i64 2, .slice (some ⟨bk, 0, none⟩) 3 3] w1 _ from m24 threeP (threeA b1 b2) threeI 2 knownW (some ⟨bk, 0, none⟩) 3 w1 (thR (h1.holds (both (thr1 b1) (thr2 b2)) memZ)) (h1.rd_of_blk memZ) (by decide)) ?_; rintro v w2 ⟨a9, c9, rfl, hn⟩; rw [w_view2] at hn ⊢; refine LR.back (h1.newSl hn) ?_; clear hn h1) | (refine CallsTo.mono (show CallsTo Try.prog 27 [.slice none 0 0, (plcA 1 24).val] w1 _ from m27 sort_few [] none 0 (plcA 1 24) w1 (Rd.nil _ _) (fun _ => rfl) (by decide) (by decide) (by decide)) ?_; rintro v w2 ⟨a10, c10, rfl, hn⟩; rw [w_lrn] at hn ⊢; refine LR.back (h1.newSl hn) ?_; clear hn h1))))
    all_goals (refine At.stage_same (fun _ h => St.sub h subZ) ?_))
  all_goals (
    apply DW.quiet [2, 3]
    · decide +kernel
    · first | exact fun _ h => h | exact fun _ h => St.sub h subZ
    repeat'(first|(apply QL.evg; (iterate 3 exact rfl); (· apply Ev_hi; (· exact rfl); (· exact rfl); (· decide); (· decide)); (· exact rfl))|(apply QL.evg; (iterate 3 exact rfl); (· apply Ev_lo; (· exact rfl); (· exact rfl); (· decide); (· decide); (· decide)); (· exact rfl))|refine yv' ?_|refine uv' ?_|refine un' ?_|(refine us' ?_ ?_;all_goals(intro hc;try simp only[hcs]at hc;try(exfalso;first|contradiction|omega)))|apply QL.nil)
    all_goals (show DW _ _ _ _ _ _ _ _))
  apply DP.begin []
  refine DP.more (PI.lr 6 19 [(16, .bool true)] (fun b => .slice (some ⟨b, 0, none⟩) 2 2) (fun b => [.own b (.cells ([.int .i64 0, .int .i64 1] : List Value).toArray 3 (0, 0))]) rfl (fun b x hx => by simp only [List.mem_singleton] at hx; subst hx; rfl) ?_) ?_
  · intro h w2
    apply kg
    · exact rfl
    · exact rfl
    apply kK
    · exact rfl
    · exact rfl
    · exact rfl
    · exact rfl
    intro b
    apply kM
    exact At.made rfl
  refine DP.go 4 [6] [19] [[16]] rfl rfl rfl rfl (by decide +kernel) ⟨⟨rfl, trivial⟩, fun _ _ _ => trivial, trivial⟩ (fun A w' hA => St.sub hA (by simp only [List.cons_append, List.nil_append]; repeat (first | exact List.nil_sublist _ | exact List.Sublist.refl _ | apply List.Sublist.cons_cons | apply List.Sublist.cons))) ?_
  intro gg A LA hLA
  simp only [List.cons_append, List.nil_append] at hLA
  subst hLA
  repeat'(first|refine kg' ?_|refine kG' ?_|apply kM|refine kv' ?_|refine kK' fun _=>?_|refine kU' ?_|refine kB' fun _=>?_|refine kA' fun _=>?_|(apply kq; (· exact rfl); (· intro w1 h1; first | (have hq := CallsTo.q (m13 threeP (threeA b1 b2) w1 (thR (h1.holds (both (thr1 b1) (thr2 b2)) memZ)) threeI) h1; rw [w_chk] at hq; exact hq) | (have hq := CallsTo.q (m15 threeP (threeA b1 b2) 3 0 w1 (thR (h1.holds (both (thr1 b1) (thr2 b2)) memZ)) threeI) h1; rw [w_far] at hq; exact hq) | exact CallsTo.q (m34 0 14 w1 (by decide)) h1 | exact CallsTo.q (m34 1 24 w1 (by decide)) h1 | exact CallsTo.q (m34 2 96 w1 (by decide)) h1 | exact CallsTo.q (show CallsTo Try.prog 17 [.slice a7 2 c7, .slice _ 2 2] w1 _ from t19 a7 _ c7 2 [0, 1] [0, 1] w1 (h1.rd_of_own memZ) (h1.rd_of_blk memZ) (by decide)) h1 | exact CallsTo.q (show CallsTo Try.prog 17 [.slice a8 2 c8, .slice _ 2 2] w1 _ from t19 a8 _ c8 2 [3, 5] [3, 5] w1 (h1.rd_of_own memZ) (h1.rd_of_blk memZ) (by decide)) h1 | exact CallsTo.q (show CallsTo Try.prog 25 [.slice a9 2 c9, .slice (some ⟨bk, 0, none⟩) 2 3] w1 _ from m25 a9 (some ⟨bk, 0, none⟩) c9 3 [plcA 0 14, plcA 1 24] [plcA 0 14, plcA 1 24] w1 (h1.rd_of_own memZ) (Rd.take 8 (h1.rd_of_blk (b := bk) (cs := pcs knownW) memZ)) (by decide)) h1 | exact CallsTo.q (show CallsTo Try.prog 25 [.slice a9 1 c9, .slice (some ⟨bk, 8, none⟩) 1 1] w1 _ from m25 a9 (some ⟨bk, 8, none⟩) c9 1 [plcA 2 96] [plcA 2 96] w1 (h1.rd_of_own memZ) (rd_from8 (h1.rd_of_blk (b := bk) (cs := pcs knownW) memZ)) (by decide)) h1))|(apply LR.call; (· exact rfl); (intro w1 h1; first | (refine CallsTo.mono (show CallsTo Try.prog 33 [] w1 _ from m33 w1) ?_; rintro v w2 ⟨b1, b2, rfl, hn⟩; refine LR.back (h1.got hn th_dep) ?_; clear hn h1) | (refine CallsTo.mono (show CallsTo Try.prog 18 [threeP.val (threeA b1 b2), .int .i64 3] w1 _ from m18 threeP (threeA b1 b2) 3 w1 (thR (h1.holds (both (thr1 b1) (thr2 b2)) memZ)) threeI) ?_; rintro v w2 ⟨a7, c7, rfl, hn⟩; rw [w_sides] at hn ⊢; refine LR.back (h1.newSl hn) ?_; clear hn h1) | (refine CallsTo.mono (show CallsTo Try.prog 20 [threeP.val (threeA b1 b2), .int .i64 1] w1 _ from m20 threeP (threeA b1 b2) 1 w1 (thR (h1.holds (both (thr1 b1) (thr2 b2)) memZ)) threeI) ?_; rintro v w2 ⟨a8, c8, rfl, hn⟩; rw [w_gws] at hn ⊢; refine LR.back (h1.newSl hn) ?_; clear hn h1) | (refine CallsTo.mono (show CallsTo Try.prog 24 [threeP.val (threeA b1 b2), .int .i64 0, .slice (some ⟨bk, 0, none⟩) 3 3] w1 _ from m24 threeP (threeA b1 b2) threeI 0 knownW (some ⟨bk, 0, none⟩) 3 w1 (thR (h1.holds (both (thr1 b1) (thr2 b2)) memZ)) (h1.rd_of_blk memZ) (by decide)) ?_; rintro v w2 ⟨a9, c9, rfl, hn⟩; rw [w_view0] at hn ⊢; refine LR.back (h1.newSl hn) ?_; clear hn h1) | (refine CallsTo.mono (show CallsTo Try.prog 24 [threeP.val (threeA b1 b2), .int .i64 2, .slice (some ⟨bk, 0, none⟩) 3 3] w1 _ from m24 threeP (threeA b1 b2) threeI 2 knownW (some ⟨bk, 0, none⟩) 3 w1 (thR (h1.holds (both (thr1 b1) (thr2 b2)) memZ)) (h1.rd_of_blk memZ) (by decide)) ?_; rintro v w2 ⟨a9, c9, rfl, hn⟩; rw [w_view2] at hn ⊢; refine LR.back (h1.newSl hn) ?_; clear hn h1) | (refine CallsTo.mono (show CallsTo Try.prog 27 [.slice none 0 0, (plcA 1 24).val] w1 _ from m27 sort_few [] none 0 (plcA 1 24) w1 (Rd.nil _ _) (fun _ => rfl) (by decide) (by decide) (by decide)) ?_; rintro v w2 ⟨a10, c10, rfl, hn⟩; rw [w_lrn] at hn ⊢; refine LR.back (h1.newSl hn) ?_; clear hn h1))))
  apply At.pdone (ds := [19]) rfl
  · repeat (first | exact MixR.base _ | (apply MixR.upd; case hd => exact rfl))
  · repeat (first | exact Tl.nil | apply Tl.cons)
  · exact (fun A w' hA => St.sub hA (by simp only [List.cons_append, List.nil_append]; repeat (first | exact List.nil_sublist _ | exact List.Sublist.refl _ | apply List.Sublist.cons_cons | apply List.Sublist.cons)))
  refine DP.go 5 [6] [19] [[16]] rfl rfl rfl rfl (by decide +kernel) ⟨⟨rfl, trivial⟩, fun _ _ _ => trivial, trivial⟩ (fun A w' hA => St.sub hA (by simp only [List.cons_append, List.nil_append]; repeat (first | exact List.nil_sublist _ | exact List.Sublist.refl _ | apply List.Sublist.cons_cons | apply List.Sublist.cons))) ?_
  intro gg A LA hLA
  simp only [List.cons_append, List.nil_append] at hLA
  subst hLA
  repeat'(first|refine kg' ?_|refine kG' ?_|apply kM|refine kv' ?_|refine kK' fun _=>?_|refine kU' ?_|refine kB' fun _=>?_|refine kA' fun _=>?_|(apply kq; (· exact rfl); (· intro w1 h1; first | (have hq := CallsTo.q (m13 threeP (threeA b1 b2) w1 (thR (h1.holds (both (thr1 b1) (thr2 b2)) memZ)) threeI) h1; rw [w_chk] at hq; exact hq) | (have hq := CallsTo.q (m15 threeP (threeA b1 b2) 3 0 w1 (thR (h1.holds (both (thr1 b1) (thr2 b2)) memZ)) threeI) h1; rw [w_far] at hq; exact hq) | exact CallsTo.q (m34 0 14 w1 (by decide)) h1 | exact CallsTo.q (m34 1 24 w1 (by decide)) h1 | exact CallsTo.q (m34 2 96 w1 (by decide)) h1 | exact CallsTo.q (show CallsTo Try.prog 17 [.slice a7 2 c7, .slice _ 2 2] w1 _ from t19 a7 _ c7 2 [0, 1] [0, 1] w1 (h1.rd_of_own memZ) (h1.rd_of_blk memZ) (by decide)) h1 | exact CallsTo.q (show CallsTo Try.prog 17 [.slice a8 2 c8, .slice _ 2 2] w1 _ from t19 a8 _ c8 2 [3, 5] [3, 5] w1 (h1.rd_of_own memZ) (h1.rd_of_blk memZ) (by decide)) h1 | exact CallsTo.q (show CallsTo Try.prog 25 [.slice a9 2 c9, .slice (some ⟨bk, 0, none⟩) 2 3] w1 _ from m25 a9 (some ⟨bk, 0, none⟩) c9 3 [plcA 0 14, plcA 1 24] [plcA 0 14, plcA 1 24] w1 (h1.rd_of_own memZ) (Rd.take 8 (h1.rd_of_blk (b := bk) (cs := pcs knownW) memZ)) (by decide)) h1 | exact CallsTo.q (show CallsTo Try.prog 25 [.slice a9 1 c9, .slice (some ⟨bk, 8, none⟩) 1 1] w1 _ from m25 a9 (some ⟨bk, 8, none⟩) c9 1 [plcA 2 96] [plcA 2 96] w1 (h1.rd_of_own memZ) (rd_from8 (h1.rd_of_blk (b := bk) (cs := pcs knownW) memZ)) (by decide)) h1))|(apply LR.call; (· exact rfl); (intro w1 h1; first | (refine CallsTo.mono (show CallsTo Try.prog 33 [] w1 _ from m33 w1) ?_; rintro v w2 ⟨b1, b2, rfl, hn⟩; refine LR.back (h1.got hn th_dep) ?_; clear hn h1) | (refine CallsTo.mono (show CallsTo Try.prog 18 [threeP.val (threeA b1 b2), .int .i64 3] w1 _ from m18 threeP (threeA b1 b2) 3 w1 (thR (h1.holds (both (thr1 b1) (thr2 b2)) memZ)) threeI) ?_; rintro v w2 ⟨a7, c7, rfl, hn⟩; rw [w_sides] at hn ⊢; refine LR.back (h1.newSl hn) ?_; clear hn h1) | (refine CallsTo.mono (show CallsTo Try.prog 20 [threeP.val (threeA b1 b2), .int .i64 1] w1 _ from m20 threeP (threeA b1 b2) 1 w1 (thR (h1.holds (both (thr1 b1) (thr2 b2)) memZ)) threeI) ?_; rintro v w2 ⟨a8, c8, rfl, hn⟩; rw [w_gws] at hn ⊢; refine LR.back (h1.newSl hn) ?_; clear hn h1) | (refine CallsTo.mono (show CallsTo Try.prog 24 [threeP.val (threeA b1 b2), .int .i64 0, .slice (some ⟨bk, 0, none⟩) 3 3] w1 _ from m24 threeP (threeA b1 b2) threeI 0 knownW (some ⟨bk, 0, none⟩) 3 w1 (thR (h1.holds (both (thr1 b1) (thr2 b2)) memZ)) (h1.rd_of_blk memZ) (by decide)) ?_; rintro v w2 ⟨a9, c9, rfl, hn⟩; rw [w_view0] at hn ⊢; refine LR.back (h1.newSl hn) ?_; clear hn h1) | (refine CallsTo.mono (show CallsTo Try.prog 24 [threeP.val (threeA b1 b2), .int .i64 2, .slice (some ⟨bk, 0, none⟩) 3 3] w1 _ from m24 threeP (threeA b1 b2) threeI 2 knownW (some ⟨bk, 0, none⟩) 3 w1 (thR (h1.holds (both (thr1 b1) (thr2 b2)) memZ)) (h1.rd_of_blk memZ) (by decide)) ?_; rintro v w2 ⟨a9, c9, rfl, hn⟩; rw [w_view2] at hn ⊢; refine LR.back (h1.newSl hn) ?_; clear hn h1) | (refine CallsTo.mono (show CallsTo Try.prog 27 [.slice none 0 0, (plcA 1 24).val] w1 _ from m27 sort_few [] none 0 (plcA 1 24) w1 (Rd.nil _ _) (fun _ => rfl) (by decide) (by decide) (by decide)) ?_; rintro v w2 ⟨a10, c10, rfl, hn⟩; rw [w_lrn] at hn ⊢; refine LR.back (h1.newSl hn) ?_; clear hn h1))))
  apply At.pdone (ds := [19]) rfl
  · repeat (first | exact MixR.base _ | (apply MixR.upd; case hd => exact rfl))
  · repeat (first | exact Tl.nil | apply Tl.cons)
  · exact (fun A w' hA => St.sub hA (by simp only [List.cons_append, List.nil_append]; repeat (first | exact List.nil_sublist _ | exact List.Sublist.refl _ | apply List.Sublist.cons_cons | apply List.Sublist.cons)))
  refine DP.take 6 19 (fun b => .slice (some ⟨b, 0, none⟩) 2 2) (fun b => [.own b (.cells ([.int .i64 0, .int .i64 1] : List Value).toArray 3 (0, 0))]) [] [19] [[16]] rfl rfl rfl rfl rfl rfl rfl (by decide +kernel) ⟨⟨rfl, trivial⟩, fun _ _ _ => trivial, trivial⟩ (fun A w' hA => St.sub hA (by simp only [List.cons_append, List.nil_append]; repeat (first | exact List.nil_sublist _ | exact List.Sublist.refl _ | apply List.Sublist.cons_cons | apply List.Sublist.cons))) (fun bp19 => ?_)
  refine DP.nil ?_
  refine DW.castL (by simp only [List.cons_append, List.nil_append]; exact rfl) ?_
  all_goals (
    apply DW.loud 7
    · exact rfl
    · decide +kernel
    repeat'(first|refine kg' ?_|refine kG' ?_|apply kM|refine kv' ?_|refine kK' fun _=>?_|refine kU' ?_|refine kB' fun _=>?_|refine kA' fun _=>?_|(apply kq; (· exact rfl); (· intro w1 h1; first | (have hq := CallsTo.q (m13 threeP (threeA b1 b2) w1 (thR (h1.holds (both (thr1 b1) (thr2 b2)) memZ)) threeI) h1; rw [w_chk] at hq; exact hq) | (have hq := CallsTo.q (m15 threeP (threeA b1 b2) 3 0 w1 (thR (h1.holds (both (thr1 b1) (thr2 b2)) memZ)) threeI) h1; rw [w_far] at hq; exact hq) | exact CallsTo.q (m34 0 14 w1 (by decide)) h1 | exact CallsTo.q (m34 1 24 w1 (by decide)) h1 | exact CallsTo.q (m34 2 96 w1 (by decide)) h1 | exact CallsTo.q (show CallsTo Try.prog 17 [.slice a7 2 c7, .slice _ 2 2] w1 _ from t19 a7 _ c7 2 [0, 1] [0, 1] w1 (h1.rd_of_own memZ) (h1.rd_of_blk memZ) (by decide)) h1 | exact CallsTo.q (show CallsTo Try.prog 17 [.slice a8 2 c8, .slice _ 2 2] w1 _ from t19 a8 _ c8 2 [3, 5] [3, 5] w1 (h1.rd_of_own memZ) (h1.rd_of_blk memZ) (by decide)) h1 | exact CallsTo.q (show CallsTo Try.prog 25 [.slice a9 2 c9, .slice (some ⟨bk, 0, none⟩) 2 3] w1 _ from m25 a9 (some ⟨bk, 0, none⟩) c9 3 [plcA 0 14, plcA 1 24] [plcA 0 14, plcA 1 24] w1 (h1.rd_of_own memZ) (Rd.take 8 (h1.rd_of_blk (b := bk) (cs := pcs knownW) memZ)) (by decide)) h1 | exact CallsTo.q (show CallsTo Try.prog 25 [.slice a9 1 c9, .slice (some ⟨bk, 8, none⟩) 1 1] w1 _ from m25 a9 (some ⟨bk, 8, none⟩) c9 1 [plcA 2 96] [plcA 2 96] w1 (h1.rd_of_own memZ) (rd_from8 (h1.rd_of_blk (b := bk) (cs := pcs knownW) memZ)) (by decide)) h1))|(apply LR.call; (· exact rfl); (intro w1 h1; first | (refine CallsTo.mono (show CallsTo Try.prog 33 [] w1 _ from m33 w1) ?_; rintro v w2 ⟨b1, b2, rfl, hn⟩; refine LR.back (h1.got hn th_dep) ?_; clear hn h1) | (refine CallsTo.mono (show CallsTo Try.prog 18 [threeP.val (threeA b1 b2), .int .i64 3] w1 _ from m18 threeP (threeA b1 b2) 3 w1 (thR (h1.holds (both (thr1 b1) (thr2 b2)) memZ)) threeI) ?_; rintro v w2 ⟨a7, c7, rfl, hn⟩; rw [w_sides] at hn ⊢; refine LR.back (h1.newSl hn) ?_; clear hn h1) | (refine CallsTo.mono (show CallsTo Try.prog 20 [threeP.val (threeA b1 b2), .int .i64 1] w1 _ from m20 threeP (threeA b1 b2) 1 w1 (thR (h1.holds (both (thr1 b1) (thr2 b2)) memZ)) threeI) ?_; rintro v w2 ⟨a8, c8, rfl, hn⟩; rw [w_gws] at hn ⊢; refine LR.back (h1.newSl hn) ?_; clear hn h1) | (refine CallsTo.mono (show CallsTo Try.prog 24 [threeP.val (threeA b1 b2), .int .i64 0, .slice (some ⟨bk, 0, none⟩) 3 3] w1 _ from m24 threeP (threeA b1 b2) threeI 0 knownW (some ⟨bk, 0, none⟩) 3 w1 (thR (h1.holds (both (thr1 b1) (thr2 b2)) memZ)) (h1.rd_of_blk memZ) (by decide)) ?_; rintro v w2 ⟨a9, c9, rfl, hn⟩; rw [w_view0] at hn ⊢; refine LR.back (h1.newSl hn) ?_; clear hn h1) | (refine CallsTo.mono (show CallsTo Try.prog 24 [threeP.val (threeA b1 b2), .int .i64 2, .slice (some ⟨bk, 0, none⟩) 3 3] w1 _ from m24 threeP (threeA b1 b2) threeI 2 knownW (some ⟨bk, 0, none⟩) 3 w1 (thR (h1.holds (both (thr1 b1) (thr2 b2)) memZ)) (h1.rd_of_blk memZ) (by decide)) ?_; rintro v w2 ⟨a9, c9, rfl, hn⟩; rw [w_view2] at hn ⊢; refine LR.back (h1.newSl hn) ?_; clear hn h1) | (refine CallsTo.mono (show CallsTo Try.prog 27 [.slice none 0 0, (plcA 1 24).val] w1 _ from m27 sort_few [] none 0 (plcA 1 24) w1 (Rd.nil _ _) (fun _ => rfl) (by decide) (by decide) (by decide)) ?_; rintro v w2 ⟨a10, c10, rfl, hn⟩; rw [w_lrn] at hn ⊢; refine LR.back (h1.newSl hn) ?_; clear hn h1))))
    all_goals (refine At.stage_same (fun _ h => St.sub h subZ) ?_))
  all_goals (
    apply DW.quiet [8, 9]
    · decide +kernel
    · first | exact fun _ h => h | exact fun _ h => St.sub h subZ
    repeat'(first|(apply QL.evg; (iterate 3 exact rfl); (· apply Ev_hi; (· exact rfl); (· exact rfl); (· decide); (· decide)); (· exact rfl))|(apply QL.evg; (iterate 3 exact rfl); (· apply Ev_lo; (· exact rfl); (· exact rfl); (· decide); (· decide); (· decide)); (· exact rfl))|refine yv' ?_|refine uv' ?_|refine un' ?_|(refine us' ?_ ?_;all_goals(intro hc;try simp only[hcs]at hc;try(exfalso;first|contradiction|omega)))|apply QL.nil)
    all_goals (show DW _ _ _ _ _ _ _ _))
  apply DP.begin []
  refine DP.more (PI.lr 12 25 [(22, .bool true)] (fun b => .slice (some ⟨b, 0, none⟩) 2 2) (fun b => [.own b (.cells ([.int .i64 3, .int .i64 5] : List Value).toArray 3 (0, 0))]) rfl (fun b x hx => by simp only [List.mem_singleton] at hx; subst hx; rfl) ?_) ?_
  · intro h w2
    apply kg
    · exact rfl
    · exact rfl
    apply kK
    · exact rfl
    · exact rfl
    · exact rfl
    · exact rfl
    intro b
    apply kM
    exact At.made rfl
  refine DP.go 10 [12] [25] [[22]] rfl rfl rfl rfl (by decide +kernel) ⟨⟨rfl, trivial⟩, fun _ _ _ => trivial, trivial⟩ (fun A w' hA => St.sub hA (by simp only [List.cons_append, List.nil_append]; repeat (first | exact List.nil_sublist _ | exact List.Sublist.refl _ | apply List.Sublist.cons_cons | apply List.Sublist.cons))) ?_
  intro gg A LA hLA
  simp only [List.cons_append, List.nil_append] at hLA
  subst hLA
  repeat'(first|refine kg' ?_|refine kG' ?_|apply kM|refine kv' ?_|refine kK' fun _=>?_|refine kU' ?_|refine kB' fun _=>?_|refine kA' fun _=>?_|(apply kq; (· exact rfl); (· intro w1 h1; first | (have hq := CallsTo.q (m13 threeP (threeA b1 b2) w1 (thR (h1.holds (both (thr1 b1) (thr2 b2)) memZ)) threeI) h1; rw [w_chk] at hq; exact hq) | (have hq := CallsTo.q (m15 threeP (threeA b1 b2) 3 0 w1 (thR (h1.holds (both (thr1 b1) (thr2 b2)) memZ)) threeI) h1; rw [w_far] at hq; exact hq) | exact CallsTo.q (m34 0 14 w1 (by decide)) h1 | exact CallsTo.q (m34 1 24 w1 (by decide)) h1 | exact CallsTo.q (m34 2 96 w1 (by decide)) h1 | exact CallsTo.q (show CallsTo Try.prog 17 [.slice a7 2 c7, .slice _ 2 2] w1 _ from t19 a7 _ c7 2 [0, 1] [0, 1] w1 (h1.rd_of_own memZ) (h1.rd_of_blk memZ) (by decide)) h1 | exact CallsTo.q (show CallsTo Try.prog 17 [.slice a8 2 c8, .slice _ 2 2] w1 _ from t19 a8 _ c8 2 [3, 5] [3, 5] w1 (h1.rd_of_own memZ) (h1.rd_of_blk memZ) (by decide)) h1 | exact CallsTo.q (show CallsTo Try.prog 25 [.slice a9 2 c9, .slice (some ⟨bk, 0, none⟩) 2 3] w1 _ from m25 a9 (some ⟨bk, 0, none⟩) c9 3 [plcA 0 14, plcA 1 24] [plcA 0 14, plcA 1 24] w1 (h1.rd_of_own memZ) (Rd.take 8 (h1.rd_of_blk (b := bk) (cs := pcs knownW) memZ)) (by decide)) h1 | exact CallsTo.q (show CallsTo Try.prog 25 [.slice a9 1 c9, .slice (some ⟨bk, 8, none⟩) 1 1] w1 _ from m25 a9 (some ⟨bk, 8, none⟩) c9 1 [plcA 2 96] [plcA 2 96] w1 (h1.rd_of_own memZ) (rd_from8 (h1.rd_of_blk (b := bk) (cs := pcs knownW) memZ)) (by decide)) h1))|(apply LR.call; (· exact rfl); (intro w1 h1; first | (refine CallsTo.mono (show CallsTo Try.prog 33 [] w1 _ from m33 w1) ?_; rintro v w2 ⟨b1, b2, rfl, hn⟩; refine LR.back (h1.got hn th_dep) ?_; clear hn h1) | (refine CallsTo.mono (show CallsTo Try.prog 18 [threeP.val (threeA b1 b2), .int .i64 3] w1 _ from m18 threeP (threeA b1 b2) 3 w1 (thR (h1.holds (both (thr1 b1) (thr2 b2)) memZ)) threeI) ?_; rintro v w2 ⟨a7, c7, rfl, hn⟩; rw [w_sides] at hn ⊢; refine LR.back (h1.newSl hn) ?_; clear hn h1) | (refine CallsTo.mono (show CallsTo Try.prog 20 [threeP.val (threeA b1 b2), .int .i64 1] w1 _ from m20 threeP (threeA b1 b2) 1 w1 (thR (h1.holds (both (thr1 b1) (thr2 b2)) memZ)) threeI) ?_; rintro v w2 ⟨a8, c8, rfl, hn⟩; rw [w_gws] at hn ⊢; refine LR.back (h1.newSl hn) ?_; clear hn h1) | (refine CallsTo.mono (show CallsTo Try.prog 24 [threeP.val (threeA b1 b2), .int .i64 0, .slice (some ⟨bk, 0, none⟩) 3 3] w1 _ from m24 threeP (threeA b1 b2) threeI 0 knownW (some ⟨bk, 0, none⟩) 3 w1 (thR (h1.holds (both (thr1 b1) (thr2 b2)) memZ)) (h1.rd_of_blk memZ) (by decide)) ?_; rintro v w2 ⟨a9, c9, rfl, hn⟩; rw [w_view0] at hn ⊢; refine LR.back (h1.newSl hn) ?_; clear hn h1) | (refine CallsTo.mono (show CallsTo Try.prog 24 [threeP.val (threeA b1 b2), .int .i64 2, .slice (some ⟨bk, 0, none⟩) 3 3] w1 _ from m24 threeP (threeA b1 b2) threeI 2 knownW (some ⟨bk, 0, none⟩) 3 w1 (thR (h1.holds (both (thr1 b1) (thr2 b2)) memZ)) (h1.rd_of_blk memZ) (by decide)) ?_; rintro v w2 ⟨a9, c9, rfl, hn⟩; rw [w_view2] at hn ⊢; refine LR.back (h1.newSl hn) ?_; clear hn h1) | (refine CallsTo.mono (show CallsTo Try.prog 27 [.slice none 0 0, (plcA 1 24).val] w1 _ from m27 sort_few [] none 0 (plcA 1 24) w1 (Rd.nil _ _) (fun _ => rfl) (by decide) (by decide) (by decide)) ?_; rintro v w2 ⟨a10, c10, rfl, hn⟩; rw [w_lrn] at hn ⊢; refine LR.back (h1.newSl hn) ?_; clear hn h1))))
  apply At.pdone (ds := [25]) rfl
  · repeat (first | exact MixR.base _ | (apply MixR.upd; case hd => exact rfl))
  · repeat (first | exact Tl.nil | apply Tl.cons)
  · exact (fun A w' hA => St.sub hA (by simp only [List.cons_append, List.nil_append]; repeat (first | exact List.nil_sublist _ | exact List.Sublist.refl _ | apply List.Sublist.cons_cons | apply List.Sublist.cons)))
  refine DP.go 11 [12] [25] [[22]] rfl rfl rfl rfl (by decide +kernel) ⟨⟨rfl, trivial⟩, fun _ _ _ => trivial, trivial⟩ (fun A w' hA => St.sub hA (by simp only [List.cons_append, List.nil_append]; repeat (first | exact List.nil_sublist _ | exact List.Sublist.refl _ | apply List.Sublist.cons_cons | apply List.Sublist.cons))) ?_
  intro gg A LA hLA
  simp only [List.cons_append, List.nil_append] at hLA
  subst hLA
  repeat'(first|refine kg' ?_|refine kG' ?_|apply kM|refine kv' ?_|refine kK' fun _=>?_|refine kU' ?_|refine kB' fun _=>?_|refine kA' fun _=>?_|(apply kq; (· exact rfl); (· intro w1 h1; first | (have hq := CallsTo.q (m13 threeP (threeA b1 b2) w1 (thR (h1.holds (both (thr1 b1) (thr2 b2)) memZ)) threeI) h1; rw [w_chk] at hq; exact hq) | (have hq := CallsTo.q (m15 threeP (threeA b1 b2) 3 0 w1 (thR (h1.holds (both (thr1 b1) (thr2 b2)) memZ)) threeI) h1; rw [w_far] at hq; exact hq) | exact CallsTo.q (m34 0 14 w1 (by decide)) h1 | exact CallsTo.q (m34 1 24 w1 (by decide)) h1 | exact CallsTo.q (m34 2 96 w1 (by decide)) h1 | exact CallsTo.q (show CallsTo Try.prog 17 [.slice a7 2 c7, .slice _ 2 2] w1 _ from t19 a7 _ c7 2 [0, 1] [0, 1] w1 (h1.rd_of_own memZ) (h1.rd_of_blk memZ) (by decide)) h1 | exact CallsTo.q (show CallsTo Try.prog 17 [.slice a8 2 c8, .slice _ 2 2] w1 _ from t19 a8 _ c8 2 [3, 5] [3, 5] w1 (h1.rd_of_own memZ) (h1.rd_of_blk memZ) (by decide)) h1 | exact CallsTo.q (show CallsTo Try.prog 25 [.slice a9 2 c9, .slice (some ⟨bk, 0, none⟩) 2 3] w1 _ from m25 a9 (some ⟨bk, 0, none⟩) c9 3 [plcA 0 14, plcA 1 24] [plcA 0 14, plcA 1 24] w1 (h1.rd_of_own memZ) (Rd.take 8 (h1.rd_of_blk (b := bk) (cs := pcs knownW) memZ)) (by decide)) h1 | exact CallsTo.q (show CallsTo Try.prog 25 [.slice a9 1 c9, .slice (some ⟨bk, 8, none⟩) 1 1] w1 _ from m25 a9 (some ⟨bk, 8, none⟩) c9 1 [plcA 2 96] [plcA 2 96] w1 (h1.rd_of_own memZ) (rd_from8 (h1.rd_of_blk (b := bk) (cs := pcs knownW) memZ)) (by decide)) h1))|(apply LR.call; (· exact rfl); (intro w1 h1; first | (refine CallsTo.mono (show CallsTo Try.prog 33 [] w1 _ from m33 w1) ?_; rintro v w2 ⟨b1, b2, rfl, hn⟩; refine LR.back (h1.got hn th_dep) ?_; clear hn h1) | (refine CallsTo.mono (show CallsTo Try.prog 18 [threeP.val (threeA b1 b2), .int .i64 3] w1 _ from m18 threeP (threeA b1 b2) 3 w1 (thR (h1.holds (both (thr1 b1) (thr2 b2)) memZ)) threeI) ?_; rintro v w2 ⟨a7, c7, rfl, hn⟩; rw [w_sides] at hn ⊢; refine LR.back (h1.newSl hn) ?_; clear hn h1) | (refine CallsTo.mono (show CallsTo Try.prog 20 [threeP.val (threeA b1 b2), .int .i64 1] w1 _ from m20 threeP (threeA b1 b2) 1 w1 (thR (h1.holds (both (thr1 b1) (thr2 b2)) memZ)) threeI) ?_; rintro v w2 ⟨a8, c8, rfl, hn⟩; rw [w_gws] at hn ⊢; refine LR.back (h1.newSl hn) ?_; clear hn h1) | (refine CallsTo.mono (show CallsTo Try.prog 24 [threeP.val (threeA b1 b2), .int .i64 0, .slice (some ⟨bk, 0, none⟩) 3 3] w1 _ from m24 threeP (threeA b1 b2) threeI 0 knownW (some ⟨bk, 0, none⟩) 3 w1 (thR (h1.holds (both (thr1 b1) (thr2 b2)) memZ)) (h1.rd_of_blk memZ) (by decide)) ?_; rintro v w2 ⟨a9, c9, rfl, hn⟩; rw [w_view0] at hn ⊢; refine LR.back (h1.newSl hn) ?_; clear hn h1) | (refine CallsTo.mono (show CallsTo Try.prog 24 [threeP.val (threeA b1 b2), .int .i64 2, .slice (some ⟨bk, 0, none⟩) 3 3] w1 _ from m24 threeP (threeA b1 b2) threeI 2 knownW (some ⟨bk, 0, none⟩) 3 w1 (thR (h1.holds (both (thr1 b1) (thr2 b2)) memZ)) (h1.rd_of_blk memZ) (by decide)) ?_; rintro v w2 ⟨a9, c9, rfl, hn⟩; rw [w_view2] at hn ⊢; refine LR.back (h1.newSl hn) ?_; clear hn h1) | (refine CallsTo.mono (show CallsTo Try.prog 27 [.slice none 0 0, (plcA 1 24).val] w1 _ from m27 sort_few [] none 0 (plcA 1 24) w1 (Rd.nil _ _) (fun _ => rfl) (by decide) (by decide) (by decide)) ?_; rintro v w2 ⟨a10, c10, rfl, hn⟩; rw [w_lrn] at hn ⊢; refine LR.back (h1.newSl hn) ?_; clear hn h1))))
  apply At.pdone (ds := [25]) rfl
  · repeat (first | exact MixR.base _ | (apply MixR.upd; case hd => exact rfl))
  · repeat (first | exact Tl.nil | apply Tl.cons)
  · exact (fun A w' hA => St.sub hA (by simp only [List.cons_append, List.nil_append]; repeat (first | exact List.nil_sublist _ | exact List.Sublist.refl _ | apply List.Sublist.cons_cons | apply List.Sublist.cons)))
  refine DP.take 12 25 (fun b => .slice (some ⟨b, 0, none⟩) 2 2) (fun b => [.own b (.cells ([.int .i64 3, .int .i64 5] : List Value).toArray 3 (0, 0))]) [] [25] [[22]] rfl rfl rfl rfl rfl rfl rfl (by decide +kernel) ⟨⟨rfl, trivial⟩, fun _ _ _ => trivial, trivial⟩ (fun A w' hA => St.sub hA (by simp only [List.cons_append, List.nil_append]; repeat (first | exact List.nil_sublist _ | exact List.Sublist.refl _ | apply List.Sublist.cons_cons | apply List.Sublist.cons))) (fun bp25 => ?_)
  refine DP.nil ?_
  refine DW.castL (by simp only [List.cons_append, List.nil_append]; exact rfl) ?_
  all_goals (
    apply DW.loud 13
    · exact rfl
    · decide +kernel
    repeat'(first|refine kg' ?_|refine kG' ?_|apply kM|refine kv' ?_|refine kK' fun _=>?_|refine kU' ?_|refine kB' fun _=>?_|refine kA' fun _=>?_|(apply kq; (· exact rfl); (· intro w1 h1; first | (have hq := CallsTo.q (m13 threeP (threeA b1 b2) w1 (thR (h1.holds (both (thr1 b1) (thr2 b2)) memZ)) threeI) h1; rw [w_chk] at hq; exact hq) | (have hq := CallsTo.q (m15 threeP (threeA b1 b2) 3 0 w1 (thR (h1.holds (both (thr1 b1) (thr2 b2)) memZ)) threeI) h1; rw [w_far] at hq; exact hq) | exact CallsTo.q (m34 0 14 w1 (by decide)) h1 | exact CallsTo.q (m34 1 24 w1 (by decide)) h1 | exact CallsTo.q (m34 2 96 w1 (by decide)) h1 | exact CallsTo.q (show CallsTo Try.prog 17 [.slice a7 2 c7, .slice _ 2 2] w1 _ from t19 a7 _ c7 2 [0, 1] [0, 1] w1 (h1.rd_of_own memZ) (h1.rd_of_blk memZ) (by decide)) h1 | exact CallsTo.q (show CallsTo Try.prog 17 [.slice a8 2 c8, .slice _ 2 2] w1 _ from t19 a8 _ c8 2 [3, 5] [3, 5] w1 (h1.rd_of_own memZ) (h1.rd_of_blk memZ) (by decide)) h1 | exact CallsTo.q (show CallsTo Try.prog 25 [.slice a9 2 c9, .slice (some ⟨bk, 0, none⟩) 2 3] w1 _ from m25 a9 (some ⟨bk, 0, none⟩) c9 3 [plcA 0 14, plcA 1 24] [plcA 0 14, plcA 1 24] w1 (h1.rd_of_own memZ) (Rd.take 8 (h1.rd_of_blk (b := bk) (cs := pcs knownW) memZ)) (by decide)) h1 | exact CallsTo.q (show CallsTo Try.prog 25 [.slice a9 1 c9, .slice (some ⟨bk, 8, none⟩) 1 1] w1 _ from m25 a9 (some ⟨bk, 8, none⟩) c9 1 [plcA 2 96] [plcA 2 96] w1 (h1.rd_of_own memZ) (rd_from8 (h1.rd_of_blk (b := bk) (cs := pcs knownW) memZ)) (by decide)) h1))|(apply LR.call; (· exact rfl); (intro w1 h1; first | (refine CallsTo.mono (show CallsTo Try.prog 33 [] w1 _ from m33 w1) ?_; rintro v w2 ⟨b1, b2, rfl, hn⟩; refine LR.back (h1.got hn th_dep) ?_; clear hn h1) | (refine CallsTo.mono (show CallsTo Try.prog 18 [threeP.val (threeA b1 b2), .int .i64 3] w1 _ from m18 threeP (threeA b1 b2) 3 w1 (thR (h1.holds (both (thr1 b1) (thr2 b2)) memZ)) threeI) ?_; rintro v w2 ⟨a7, c7, rfl, hn⟩; rw [w_sides] at hn ⊢; refine LR.back (h1.newSl hn) ?_; clear hn h1) | (refine CallsTo.mono (show CallsTo Try.prog 20 [threeP.val (threeA b1 b2), .int .i64 1] w1 _ from m20 threeP (threeA b1 b2) 1 w1 (thR (h1.holds (both (thr1 b1) (thr2 b2)) memZ)) threeI) ?_; rintro v w2 ⟨a8, c8, rfl, hn⟩; rw [w_gws] at hn ⊢; refine LR.back (h1.newSl hn) ?_; clear hn h1) | (refine CallsTo.mono (show CallsTo Try.prog 24 [threeP.val (threeA b1 b2), .int .i64 0, .slice (some ⟨bk, 0, none⟩) 3 3] w1 _ from m24 threeP (threeA b1 b2) threeI 0 knownW (some ⟨bk, 0, none⟩) 3 w1 (thR (h1.holds (both (thr1 b1) (thr2 b2)) memZ)) (h1.rd_of_blk memZ) (by decide)) ?_; rintro v w2 ⟨a9, c9, rfl, hn⟩; rw [w_view0] at hn ⊢; refine LR.back (h1.newSl hn) ?_; clear hn h1) | (refine CallsTo.mono (show CallsTo Try.prog 24 [threeP.val (threeA b1 b2), .int .i64 2, .slice (some ⟨bk, 0, none⟩) 3 3] w1 _ from m24 threeP (threeA b1 b2) threeI 2 knownW (some ⟨bk, 0, none⟩) 3 w1 (thR (h1.holds (both (thr1 b1) (thr2 b2)) memZ)) (h1.rd_of_blk memZ) (by decide)) ?_; rintro v w2 ⟨a9, c9, rfl, hn⟩; rw [w_view2] at hn ⊢; refine LR.back (h1.newSl hn) ?_; clear hn h1) | (refine CallsTo.mono (show CallsTo Try.prog 27 [.slice none 0 0, (plcA 1 24).val] w1 _ from m27 sort_few [] none 0 (plcA 1 24) w1 (Rd.nil _ _) (fun _ => rfl) (by decide) (by decide) (by decide)) ?_; rintro v w2 ⟨a10, c10, rfl, hn⟩; rw [w_lrn] at hn ⊢; refine LR.back (h1.newSl hn) ?_; clear hn h1))))
    all_goals (refine At.stage_same (fun _ h => St.sub h subZ) ?_))
  all_goals (
    apply DW.quiet [14, 15, 16, 17, 18, 19, 20, 21, 22, 24, 26, 27]
    · decide +kernel
    · first | exact fun _ h => h | exact fun _ h => St.sub h subZ
    repeat'(first|(apply QL.evg; (iterate 3 exact rfl); (· apply Ev_hi; (· exact rfl); (· exact rfl); (· decide); (· decide)); (· exact rfl))|(apply QL.evg; (iterate 3 exact rfl); (· apply Ev_lo; (· exact rfl); (· exact rfl); (· decide); (· decide); (· decide)); (· exact rfl))|refine yv' ?_|refine uv' ?_|refine un' ?_|(refine us' ?_ ?_;all_goals(intro hc;try simp only[hcs]at hc;try(exfalso;first|contradiction|omega)))|apply QL.nil)
    all_goals (show DW _ _ _ _ _ _ _ _))
  all_goals (
    apply DW.loud 23
    · exact rfl
    · decide +kernel
    repeat'(first|refine kg' ?_|refine kG' ?_|apply kM|refine kv' ?_|refine kK' fun _=>?_|refine kU' ?_|refine kB' fun _=>?_|refine kA' fun _=>?_|(apply kq; (· exact rfl); (· intro w1 h1; first | (have hq := CallsTo.q (m13 threeP (threeA b1 b2) w1 (thR (h1.holds (both (thr1 b1) (thr2 b2)) memZ)) threeI) h1; rw [w_chk] at hq; exact hq) | (have hq := CallsTo.q (m15 threeP (threeA b1 b2) 3 0 w1 (thR (h1.holds (both (thr1 b1) (thr2 b2)) memZ)) threeI) h1; rw [w_far] at hq; exact hq) | exact CallsTo.q (m34 0 14 w1 (by decide)) h1 | exact CallsTo.q (m34 1 24 w1 (by decide)) h1 | exact CallsTo.q (m34 2 96 w1 (by decide)) h1 | exact CallsTo.q (show CallsTo Try.prog 17 [.slice a7 2 c7, .slice _ 2 2] w1 _ from t19 a7 _ c7 2 [0, 1] [0, 1] w1 (h1.rd_of_own memZ) (h1.rd_of_blk memZ) (by decide)) h1 | exact CallsTo.q (show CallsTo Try.prog 17 [.slice a8 2 c8, .slice _ 2 2] w1 _ from t19 a8 _ c8 2 [3, 5] [3, 5] w1 (h1.rd_of_own memZ) (h1.rd_of_blk memZ) (by decide)) h1 | exact CallsTo.q (show CallsTo Try.prog 25 [.slice a9 2 c9, .slice (some ⟨bk, 0, none⟩) 2 3] w1 _ from m25 a9 (some ⟨bk, 0, none⟩) c9 3 [plcA 0 14, plcA 1 24] [plcA 0 14, plcA 1 24] w1 (h1.rd_of_own memZ) (Rd.take 8 (h1.rd_of_blk (b := bk) (cs := pcs knownW) memZ)) (by decide)) h1 | exact CallsTo.q (show CallsTo Try.prog 25 [.slice a9 1 c9, .slice (some ⟨bk, 8, none⟩) 1 1] w1 _ from m25 a9 (some ⟨bk, 8, none⟩) c9 1 [plcA 2 96] [plcA 2 96] w1 (h1.rd_of_own memZ) (rd_from8 (h1.rd_of_blk (b := bk) (cs := pcs knownW) memZ)) (by decide)) h1))|(apply LR.call; (· exact rfl); (intro w1 h1; first | (refine CallsTo.mono (show CallsTo Try.prog 33 [] w1 _ from m33 w1) ?_; rintro v w2 ⟨b1, b2, rfl, hn⟩; refine LR.back (h1.got hn th_dep) ?_; clear hn h1) | (refine CallsTo.mono (show CallsTo Try.prog 18 [threeP.val (threeA b1 b2), .int .i64 3] w1 _ from m18 threeP (threeA b1 b2) 3 w1 (thR (h1.holds (both (thr1 b1) (thr2 b2)) memZ)) threeI) ?_; rintro v w2 ⟨a7, c7, rfl, hn⟩; rw [w_sides] at hn ⊢; refine LR.back (h1.newSl hn) ?_; clear hn h1) | (refine CallsTo.mono (show CallsTo Try.prog 20 [threeP.val (threeA b1 b2), .int .i64 1] w1 _ from m20 threeP (threeA b1 b2) 1 w1 (thR (h1.holds (both (thr1 b1) (thr2 b2)) memZ)) threeI) ?_; rintro v w2 ⟨a8, c8, rfl, hn⟩; rw [w_gws] at hn ⊢; refine LR.back (h1.newSl hn) ?_; clear hn h1) | (refine CallsTo.mono (show CallsTo Try.prog 24 [threeP.val (threeA b1 b2), .int .i64 0, .slice (some ⟨bk, 0, none⟩) 3 3] w1 _ from m24 threeP (threeA b1 b2) threeI 0 knownW (some ⟨bk, 0, none⟩) 3 w1 (thR (h1.holds (both (thr1 b1) (thr2 b2)) memZ)) (h1.rd_of_blk memZ) (by decide)) ?_; rintro v w2 ⟨a9, c9, rfl, hn⟩; rw [w_view0] at hn ⊢; refine LR.back (h1.newSl hn) ?_; clear hn h1) | (refine CallsTo.mono (show CallsTo Try.prog 24 [threeP.val (threeA b1 b2), .int .i64 2, .slice (some ⟨bk, 0, none⟩) 3 3] w1 _ from m24 threeP (threeA b1 b2) threeI 2 knownW (some ⟨bk, 0, none⟩) 3 w1 (thR (h1.holds (both (thr1 b1) (thr2 b2)) memZ)) (h1.rd_of_blk memZ) (by decide)) ?_; rintro v w2 ⟨a9, c9, rfl, hn⟩; rw [w_view2] at hn ⊢; refine LR.back (h1.newSl hn) ?_; clear hn h1) | (refine CallsTo.mono (show CallsTo Try.prog 27 [.slice none 0 0, (plcA 1 24).val] w1 _ from m27 sort_few [] none 0 (plcA 1 24) w1 (Rd.nil _ _) (fun _ => rfl) (by decide) (by decide) (by decide)) ?_; rintro v w2 ⟨a10, c10, rfl, hn⟩; rw [w_lrn] at hn ⊢; refine LR.back (h1.newSl hn) ?_; clear hn h1))))
    all_goals (refine At.stage_same (fun _ h => St.sub h subZ) ?_))
  all_goals (
    apply DW.loud 25
    · exact rfl
    · decide +kernel
    repeat'(first|refine kg' ?_|refine kG' ?_|apply kM|refine kv' ?_|refine kK' fun _=>?_|refine kU' ?_|refine kB' fun _=>?_|refine kA' fun _=>?_|(apply kq; (· exact rfl); (· intro w1 h1; first | (have hq := CallsTo.q (m13 threeP (threeA b1 b2) w1 (thR (h1.holds (both (thr1 b1) (thr2 b2)) memZ)) threeI) h1; rw [w_chk] at hq; exact hq) | (have hq := CallsTo.q (m15 threeP (threeA b1 b2) 3 0 w1 (thR (h1.holds (both (thr1 b1) (thr2 b2)) memZ)) threeI) h1; rw [w_far] at hq; exact hq) | exact CallsTo.q (m34 0 14 w1 (by decide)) h1 | exact CallsTo.q (m34 1 24 w1 (by decide)) h1 | exact CallsTo.q (m34 2 96 w1 (by decide)) h1 | exact CallsTo.q (show CallsTo Try.prog 17 [.slice a7 2 c7, .slice _ 2 2] w1 _ from t19 a7 _ c7 2 [0, 1] [0, 1] w1 (h1.rd_of_own memZ) (h1.rd_of_blk memZ) (by decide)) h1 | exact CallsTo.q (show CallsTo Try.prog 17 [.slice a8 2 c8, .slice _ 2 2] w1 _ from t19 a8 _ c8 2 [3, 5] [3, 5] w1 (h1.rd_of_own memZ) (h1.rd_of_blk memZ) (by decide)) h1 | exact CallsTo.q (show CallsTo Try.prog 25 [.slice a9 2 c9, .slice (some ⟨bk, 0, none⟩) 2 3] w1 _ from m25 a9 (some ⟨bk, 0, none⟩) c9 3 [plcA 0 14, plcA 1 24] [plcA 0 14, plcA 1 24] w1 (h1.rd_of_own memZ) (Rd.take 8 (h1.rd_of_blk (b := bk) (cs := pcs knownW) memZ)) (by decide)) h1 | exact CallsTo.q (show CallsTo Try.prog 25 [.slice a9 1 c9, .slice (some ⟨bk, 8, none⟩) 1 1] w1 _ from m25 a9 (some ⟨bk, 8, none⟩) c9 1 [plcA 2 96] [plcA 2 96] w1 (h1.rd_of_own memZ) (rd_from8 (h1.rd_of_blk (b := bk) (cs := pcs knownW) memZ)) (by decide)) h1))|(apply LR.call; (· exact rfl); (intro w1 h1; first | (refine CallsTo.mono (show CallsTo Try.prog 33 [] w1 _ from m33 w1) ?_; rintro v w2 ⟨b1, b2, rfl, hn⟩; refine LR.back (h1.got hn th_dep) ?_; clear hn h1) | (refine CallsTo.mono (show CallsTo Try.prog 18 [threeP.val (threeA b1 b2), .int .i64 3] w1 _ from m18 threeP (threeA b1 b2) 3 w1 (thR (h1.holds (both (thr1 b1) (thr2 b2)) memZ)) threeI) ?_; rintro v w2 ⟨a7, c7, rfl, hn⟩; rw [w_sides] at hn ⊢; refine LR.back (h1.newSl hn) ?_; clear hn h1) | (refine CallsTo.mono (show CallsTo Try.prog 20 [threeP.val (threeA b1 b2), .int .i64 1] w1 _ from m20 threeP (threeA b1 b2) 1 w1 (thR (h1.holds (both (thr1 b1) (thr2 b2)) memZ)) threeI) ?_; rintro v w2 ⟨a8, c8, rfl, hn⟩; rw [w_gws] at hn ⊢; refine LR.back (h1.newSl hn) ?_; clear hn h1) | (refine CallsTo.mono (show CallsTo Try.prog 24 [threeP.val (threeA b1 b2), .int .i64 0, .slice (some ⟨bk, 0, none⟩) 3 3] w1 _ from m24 threeP (threeA b1 b2) threeI 0 knownW (some ⟨bk, 0, none⟩) 3 w1 (thR (h1.holds (both (thr1 b1) (thr2 b2)) memZ)) (h1.rd_of_blk memZ) (by decide)) ?_; rintro v w2 ⟨a9, c9, rfl, hn⟩; rw [w_view0] at hn ⊢; refine LR.back (h1.newSl hn) ?_; clear hn h1) | (refine CallsTo.mono (show CallsTo Try.prog 24 [threeP.val (threeA b1 b2), .int .i64 2, .slice (some ⟨bk, 0, none⟩) 3 3] w1 _ from m24 threeP (threeA b1 b2) threeI 2 knownW (some ⟨bk, 0, none⟩) 3 w1 (thR (h1.holds (both (thr1 b1) (thr2 b2)) memZ)) (h1.rd_of_blk memZ) (by decide)) ?_; rintro v w2 ⟨a9, c9, rfl, hn⟩; rw [w_view2] at hn ⊢; refine LR.back (h1.newSl hn) ?_; clear hn h1) | (refine CallsTo.mono (show CallsTo Try.prog 27 [.slice none 0 0, (plcA 1 24).val] w1 _ from m27 sort_few [] none 0 (plcA 1 24) w1 (Rd.nil _ _) (fun _ => rfl) (by decide) (by decide) (by decide)) ?_; rintro v w2 ⟨a10, c10, rfl, hn⟩; rw [w_lrn] at hn ⊢; refine LR.back (h1.newSl hn) ?_; clear hn h1))))
    all_goals (refine At.stage_same (fun _ h => St.sub h subZ) ?_))
  all_goals (
    apply DW.loud 28
    · exact rfl
    · decide +kernel
    repeat'(first|refine kg' ?_|refine kG' ?_|apply kM|refine kv' ?_|refine kK' fun _=>?_|refine kU' ?_|refine kB' fun _=>?_|refine kA' fun _=>?_|(apply kq; (· exact rfl); (· intro w1 h1; first | (have hq := CallsTo.q (m13 threeP (threeA b1 b2) w1 (thR (h1.holds (both (thr1 b1) (thr2 b2)) memZ)) threeI) h1; rw [w_chk] at hq; exact hq) | (have hq := CallsTo.q (m15 threeP (threeA b1 b2) 3 0 w1 (thR (h1.holds (both (thr1 b1) (thr2 b2)) memZ)) threeI) h1; rw [w_far] at hq; exact hq) | exact CallsTo.q (m34 0 14 w1 (by decide)) h1 | exact CallsTo.q (m34 1 24 w1 (by decide)) h1 | exact CallsTo.q (m34 2 96 w1 (by decide)) h1 | exact CallsTo.q (show CallsTo Try.prog 17 [.slice a7 2 c7, .slice _ 2 2] w1 _ from t19 a7 _ c7 2 [0, 1] [0, 1] w1 (h1.rd_of_own memZ) (h1.rd_of_blk memZ) (by decide)) h1 | exact CallsTo.q (show CallsTo Try.prog 17 [.slice a8 2 c8, .slice _ 2 2] w1 _ from t19 a8 _ c8 2 [3, 5] [3, 5] w1 (h1.rd_of_own memZ) (h1.rd_of_blk memZ) (by decide)) h1 | exact CallsTo.q (show CallsTo Try.prog 25 [.slice a9 2 c9, .slice (some ⟨bk, 0, none⟩) 2 3] w1 _ from m25 a9 (some ⟨bk, 0, none⟩) c9 3 [plcA 0 14, plcA 1 24] [plcA 0 14, plcA 1 24] w1 (h1.rd_of_own memZ) (Rd.take 8 (h1.rd_of_blk (b := bk) (cs := pcs knownW) memZ)) (by decide)) h1 | exact CallsTo.q (show CallsTo Try.prog 25 [.slice a9 1 c9, .slice (some ⟨bk, 8, none⟩) 1 1] w1 _ from m25 a9 (some ⟨bk, 8, none⟩) c9 1 [plcA 2 96] [plcA 2 96] w1 (h1.rd_of_own memZ) (rd_from8 (h1.rd_of_blk (b := bk) (cs := pcs knownW) memZ)) (by decide)) h1))|(apply LR.call; (· exact rfl); (intro w1 h1; first | (refine CallsTo.mono (show CallsTo Try.prog 33 [] w1 _ from m33 w1) ?_; rintro v w2 ⟨b1, b2, rfl, hn⟩; refine LR.back (h1.got hn th_dep) ?_; clear hn h1) | (refine CallsTo.mono (show CallsTo Try.prog 18 [threeP.val (threeA b1 b2), .int .i64 3] w1 _ from m18 threeP (threeA b1 b2) 3 w1 (thR (h1.holds (both (thr1 b1) (thr2 b2)) memZ)) threeI) ?_; rintro v w2 ⟨a7, c7, rfl, hn⟩; rw [w_sides] at hn ⊢; refine LR.back (h1.newSl hn) ?_; clear hn h1) | (refine CallsTo.mono (show CallsTo Try.prog 20 [threeP.val (threeA b1 b2), .int .i64 1] w1 _ from m20 threeP (threeA b1 b2) 1 w1 (thR (h1.holds (both (thr1 b1) (thr2 b2)) memZ)) threeI) ?_; rintro v w2 ⟨a8, c8, rfl, hn⟩; rw [w_gws] at hn ⊢; refine LR.back (h1.newSl hn) ?_; clear hn h1) | (refine CallsTo.mono (show CallsTo Try.prog 24 [threeP.val (threeA b1 b2), .int .i64 0, .slice (some ⟨bk, 0, none⟩) 3 3] w1 _ from m24 threeP (threeA b1 b2) threeI 0 knownW (some ⟨bk, 0, none⟩) 3 w1 (thR (h1.holds (both (thr1 b1) (thr2 b2)) memZ)) (h1.rd_of_blk memZ) (by decide)) ?_; rintro v w2 ⟨a9, c9, rfl, hn⟩; rw [w_view0] at hn ⊢; refine LR.back (h1.newSl hn) ?_; clear hn h1) | (refine CallsTo.mono (show CallsTo Try.prog 24 [threeP.val (threeA b1 b2), .int .i64 2, .slice (some ⟨bk, 0, none⟩) 3 3] w1 _ from m24 threeP (threeA b1 b2) threeI 2 knownW (some ⟨bk, 0, none⟩) 3 w1 (thR (h1.holds (both (thr1 b1) (thr2 b2)) memZ)) (h1.rd_of_blk memZ) (by decide)) ?_; rintro v w2 ⟨a9, c9, rfl, hn⟩; rw [w_view2] at hn ⊢; refine LR.back (h1.newSl hn) ?_; clear hn h1) | (refine CallsTo.mono (show CallsTo Try.prog 27 [.slice none 0 0, (plcA 1 24).val] w1 _ from m27 sort_few [] none 0 (plcA 1 24) w1 (Rd.nil _ _) (fun _ => rfl) (by decide) (by decide) (by decide)) ?_; rintro v w2 ⟨a10, c10, rfl, hn⟩; rw [w_lrn] at hn ⊢; refine LR.back (h1.newSl hn) ?_; clear hn h1))))
    all_goals (refine At.stage_same (fun _ h => St.sub h subZ) ?_))
  all_goals (
    apply DW.quiet [29, 30, 32, 34, 35]
    · decide +kernel
    · first | exact fun _ h => h | exact fun _ h => St.sub h subZ
    repeat'(first|(apply QL.evg; (iterate 3 exact rfl); (· apply Ev_hi; (· exact rfl); (· exact rfl); (· decide); (· decide)); (· exact rfl))|(apply QL.evg; (iterate 3 exact rfl); (· apply Ev_lo; (· exact rfl); (· exact rfl); (· decide); (· decide); (· decide)); (· exact rfl))|refine yv' ?_|refine uv' ?_|refine un' ?_|(refine us' ?_ ?_;all_goals(intro hc;try simp only[hcs]at hc;try(exfalso;first|contradiction|omega)))|apply QL.nil)
    all_goals (show DW _ _ _ _ _ _ _ _))
  all_goals (
    apply DW.loud 31
    · exact rfl
    · decide +kernel
    repeat'(first|refine kg' ?_|refine kG' ?_|apply kM|refine kv' ?_|refine kK' fun _=>?_|refine kU' ?_|refine kB' fun _=>?_|refine kA' fun _=>?_|(apply kq; (· exact rfl); (· intro w1 h1; first | (have hq := CallsTo.q (m13 threeP (threeA b1 b2) w1 (thR (h1.holds (both (thr1 b1) (thr2 b2)) memZ)) threeI) h1; rw [w_chk] at hq; exact hq) | (have hq := CallsTo.q (m15 threeP (threeA b1 b2) 3 0 w1 (thR (h1.holds (both (thr1 b1) (thr2 b2)) memZ)) threeI) h1; rw [w_far] at hq; exact hq) | exact CallsTo.q (m34 0 14 w1 (by decide)) h1 | exact CallsTo.q (m34 1 24 w1 (by decide)) h1 | exact CallsTo.q (m34 2 96 w1 (by decide)) h1 | exact CallsTo.q (show CallsTo Try.prog 17 [.slice a7 2 c7, .slice _ 2 2] w1 _ from t19 a7 _ c7 2 [0, 1] [0, 1] w1 (h1.rd_of_own memZ) (h1.rd_of_blk memZ) (by decide)) h1 | exact CallsTo.q (show CallsTo Try.prog 17 [.slice a8 2 c8, .slice _ 2 2] w1 _ from t19 a8 _ c8 2 [3, 5] [3, 5] w1 (h1.rd_of_own memZ) (h1.rd_of_blk memZ) (by decide)) h1 | exact CallsTo.q (show CallsTo Try.prog 25 [.slice a9 2 c9, .slice (some ⟨bk, 0, none⟩) 2 3] w1 _ from m25 a9 (some ⟨bk, 0, none⟩) c9 3 [plcA 0 14, plcA 1 24] [plcA 0 14, plcA 1 24] w1 (h1.rd_of_own memZ) (Rd.take 8 (h1.rd_of_blk (b := bk) (cs := pcs knownW) memZ)) (by decide)) h1 | exact CallsTo.q (show CallsTo Try.prog 25 [.slice a9 1 c9, .slice (some ⟨bk, 8, none⟩) 1 1] w1 _ from m25 a9 (some ⟨bk, 8, none⟩) c9 1 [plcA 2 96] [plcA 2 96] w1 (h1.rd_of_own memZ) (rd_from8 (h1.rd_of_blk (b := bk) (cs := pcs knownW) memZ)) (by decide)) h1))|(apply LR.call; (· exact rfl); (intro w1 h1; first | (refine CallsTo.mono (show CallsTo Try.prog 33 [] w1 _ from m33 w1) ?_; rintro v w2 ⟨b1, b2, rfl, hn⟩; refine LR.back (h1.got hn th_dep) ?_; clear hn h1) | (refine CallsTo.mono (show CallsTo Try.prog 18 [threeP.val (threeA b1 b2), .int .i64 3] w1 _ from m18 threeP (threeA b1 b2) 3 w1 (thR (h1.holds (both (thr1 b1) (thr2 b2)) memZ)) threeI) ?_; rintro v w2 ⟨a7, c7, rfl, hn⟩; rw [w_sides] at hn ⊢; refine LR.back (h1.newSl hn) ?_; clear hn h1) | (refine CallsTo.mono (show CallsTo Try.prog 20 [threeP.val (threeA b1 b2), .int .i64 1] w1 _ from m20 threeP (threeA b1 b2) 1 w1 (thR (h1.holds (both (thr1 b1) (thr2 b2)) memZ)) threeI) ?_; rintro v w2 ⟨a8, c8, rfl, hn⟩; rw [w_gws] at hn ⊢; refine LR.back (h1.newSl hn) ?_; clear hn h1) | (refine CallsTo.mono (show CallsTo Try.prog 24 [threeP.val (threeA b1 b2), .int .i64 0, .slice (some ⟨bk, 0, none⟩) 3 3] w1 _ from m24 threeP (threeA b1 b2) threeI 0 knownW (some ⟨bk, 0, none⟩) 3 w1 (thR (h1.holds (both (thr1 b1) (thr2 b2)) memZ)) (h1.rd_of_blk memZ) (by decide)) ?_; rintro v w2 ⟨a9, c9, rfl, hn⟩; rw [w_view0] at hn ⊢; refine LR.back (h1.newSl hn) ?_; clear hn h1) | (refine CallsTo.mono (show CallsTo Try.prog 24 [threeP.val (threeA b1 b2), .int .i64 2, .slice (some ⟨bk, 0, none⟩) 3 3] w1 _ from m24 threeP (threeA b1 b2) threeI 2 knownW (some ⟨bk, 0, none⟩) 3 w1 (thR (h1.holds (both (thr1 b1) (thr2 b2)) memZ)) (h1.rd_of_blk memZ) (by decide)) ?_; rintro v w2 ⟨a9, c9, rfl, hn⟩; rw [w_view2] at hn ⊢; refine LR.back (h1.newSl hn) ?_; clear hn h1) | (refine CallsTo.mono (show CallsTo Try.prog 27 [.slice none 0 0, (plcA 1 24).val] w1 _ from m27 sort_few [] none 0 (plcA 1 24) w1 (Rd.nil _ _) (fun _ => rfl) (by decide) (by decide) (by decide)) ?_; rintro v w2 ⟨a10, c10, rfl, hn⟩; rw [w_lrn] at hn ⊢; refine LR.back (h1.newSl hn) ?_; clear hn h1))))
    all_goals (refine At.stage_same (fun _ h => St.sub h subZ) ?_))
  all_goals (
    apply DW.loud 33
    · exact rfl
    · decide +kernel
    repeat'(first|refine kg' ?_|refine kG' ?_|apply kM|refine kv' ?_|refine kK' fun _=>?_|refine kU' ?_|refine kB' fun _=>?_|refine kA' fun _=>?_|(apply kq; (· exact rfl); (· intro w1 h1; first | (have hq := CallsTo.q (m13 threeP (threeA b1 b2) w1 (thR (h1.holds (both (thr1 b1) (thr2 b2)) memZ)) threeI) h1; rw [w_chk] at hq; exact hq) | (have hq := CallsTo.q (m15 threeP (threeA b1 b2) 3 0 w1 (thR (h1.holds (both (thr1 b1) (thr2 b2)) memZ)) threeI) h1; rw [w_far] at hq; exact hq) | exact CallsTo.q (m34 0 14 w1 (by decide)) h1 | exact CallsTo.q (m34 1 24 w1 (by decide)) h1 | exact CallsTo.q (m34 2 96 w1 (by decide)) h1 | exact CallsTo.q (show CallsTo Try.prog 17 [.slice a7 2 c7, .slice _ 2 2] w1 _ from t19 a7 _ c7 2 [0, 1] [0, 1] w1 (h1.rd_of_own memZ) (h1.rd_of_blk memZ) (by decide)) h1 | exact CallsTo.q (show CallsTo Try.prog 17 [.slice a8 2 c8, .slice _ 2 2] w1 _ from t19 a8 _ c8 2 [3, 5] [3, 5] w1 (h1.rd_of_own memZ) (h1.rd_of_blk memZ) (by decide)) h1 | exact CallsTo.q (show CallsTo Try.prog 25 [.slice a9 2 c9, .slice (some ⟨bk, 0, none⟩) 2 3] w1 _ from m25 a9 (some ⟨bk, 0, none⟩) c9 3 [plcA 0 14, plcA 1 24] [plcA 0 14, plcA 1 24] w1 (h1.rd_of_own memZ) (Rd.take 8 (h1.rd_of_blk (b := bk) (cs := pcs knownW) memZ)) (by decide)) h1 | exact CallsTo.q (show CallsTo Try.prog 25 [.slice a9 1 c9, .slice (some ⟨bk, 8, none⟩) 1 1] w1 _ from m25 a9 (some ⟨bk, 8, none⟩) c9 1 [plcA 2 96] [plcA 2 96] w1 (h1.rd_of_own memZ) (rd_from8 (h1.rd_of_blk (b := bk) (cs := pcs knownW) memZ)) (by decide)) h1))|(apply LR.call; (· exact rfl); (intro w1 h1; first | (refine CallsTo.mono (show CallsTo Try.prog 33 [] w1 _ from m33 w1) ?_; rintro v w2 ⟨b1, b2, rfl, hn⟩; refine LR.back (h1.got hn th_dep) ?_; clear hn h1) | (refine CallsTo.mono (show CallsTo Try.prog 18 [threeP.val (threeA b1 b2), .int .i64 3] w1 _ from m18 threeP (threeA b1 b2) 3 w1 (thR (h1.holds (both (thr1 b1) (thr2 b2)) memZ)) threeI) ?_; rintro v w2 ⟨a7, c7, rfl, hn⟩; rw [w_sides] at hn ⊢; refine LR.back (h1.newSl hn) ?_; clear hn h1) | (refine CallsTo.mono (show CallsTo Try.prog 20 [threeP.val (threeA b1 b2), .int .i64 1] w1 _ from m20 threeP (threeA b1 b2) 1 w1 (thR (h1.holds (both (thr1 b1) (thr2 b2)) memZ)) threeI) ?_; rintro v w2 ⟨a8, c8, rfl, hn⟩; rw [w_gws] at hn ⊢; refine LR.back (h1.newSl hn) ?_; clear hn h1) | (refine CallsTo.mono (show CallsTo Try.prog 24 [threeP.val (threeA b1 b2), .int .i64 0, .slice (some ⟨bk, 0, none⟩) 3 3] w1 _ from m24 threeP (threeA b1 b2) threeI 0 knownW (some ⟨bk, 0, none⟩) 3 w1 (thR (h1.holds (both (thr1 b1) (thr2 b2)) memZ)) (h1.rd_of_blk memZ) (by decide)) ?_; rintro v w2 ⟨a9, c9, rfl, hn⟩; rw [w_view0] at hn ⊢; refine LR.back (h1.newSl hn) ?_; clear hn h1) | (refine CallsTo.mono (show CallsTo Try.prog 24 [threeP.val (threeA b1 b2), .int .i64 2, .slice (some ⟨bk, 0, none⟩) 3 3] w1 _ from m24 threeP (threeA b1 b2) threeI 2 knownW (some ⟨bk, 0, none⟩) 3 w1 (thR (h1.holds (both (thr1 b1) (thr2 b2)) memZ)) (h1.rd_of_blk memZ) (by decide)) ?_; rintro v w2 ⟨a9, c9, rfl, hn⟩; rw [w_view2] at hn ⊢; refine LR.back (h1.newSl hn) ?_; clear hn h1) | (refine CallsTo.mono (show CallsTo Try.prog 27 [.slice none 0 0, (plcA 1 24).val] w1 _ from m27 sort_few [] none 0 (plcA 1 24) w1 (Rd.nil _ _) (fun _ => rfl) (by decide) (by decide) (by decide)) ?_; rintro v w2 ⟨a10, c10, rfl, hn⟩; rw [w_lrn] at hn ⊢; refine LR.back (h1.newSl hn) ?_; clear hn h1))))
    all_goals (refine At.stage_same (fun _ h => St.sub h subZ) ?_))
  all_goals (
    apply DW.loud 36
    · exact rfl
    · decide +kernel
    repeat'(first|refine kg' ?_|refine kG' ?_|apply kM|refine kv' ?_|refine kK' fun _=>?_|refine kU' ?_|refine kB' fun _=>?_|refine kA' fun _=>?_|(apply kq; (· exact rfl); (· intro w1 h1; first | (have hq := CallsTo.q (m13 threeP (threeA b1 b2) w1 (thR (h1.holds (both (thr1 b1) (thr2 b2)) memZ)) threeI) h1; rw [w_chk] at hq; exact hq) | (have hq := CallsTo.q (m15 threeP (threeA b1 b2) 3 0 w1 (thR (h1.holds (both (thr1 b1) (thr2 b2)) memZ)) threeI) h1; rw [w_far] at hq; exact hq) | exact CallsTo.q (m34 0 14 w1 (by decide)) h1 | exact CallsTo.q (m34 1 24 w1 (by decide)) h1 | exact CallsTo.q (m34 2 96 w1 (by decide)) h1 | exact CallsTo.q (show CallsTo Try.prog 17 [.slice a7 2 c7, .slice _ 2 2] w1 _ from t19 a7 _ c7 2 [0, 1] [0, 1] w1 (h1.rd_of_own memZ) (h1.rd_of_blk memZ) (by decide)) h1 | exact CallsTo.q (show CallsTo Try.prog 17 [.slice a8 2 c8, .slice _ 2 2] w1 _ from t19 a8 _ c8 2 [3, 5] [3, 5] w1 (h1.rd_of_own memZ) (h1.rd_of_blk memZ) (by decide)) h1 | exact CallsTo.q (show CallsTo Try.prog 25 [.slice a9 2 c9, .slice (some ⟨bk, 0, none⟩) 2 3] w1 _ from m25 a9 (some ⟨bk, 0, none⟩) c9 3 [plcA 0 14, plcA 1 24] [plcA 0 14, plcA 1 24] w1 (h1.rd_of_own memZ) (Rd.take 8 (h1.rd_of_blk (b := bk) (cs := pcs knownW) memZ)) (by decide)) h1 | exact CallsTo.q (show CallsTo Try.prog 25 [.slice a9 1 c9, .slice (some ⟨bk, 8, none⟩) 1 1] w1 _ from m25 a9 (some ⟨bk, 8, none⟩) c9 1 [plcA 2 96] [plcA 2 96] w1 (h1.rd_of_own memZ) (rd_from8 (h1.rd_of_blk (b := bk) (cs := pcs knownW) memZ)) (by decide)) h1))|(apply LR.call; (· exact rfl); (intro w1 h1; first | (refine CallsTo.mono (show CallsTo Try.prog 33 [] w1 _ from m33 w1) ?_; rintro v w2 ⟨b1, b2, rfl, hn⟩; refine LR.back (h1.got hn th_dep) ?_; clear hn h1) | (refine CallsTo.mono (show CallsTo Try.prog 18 [threeP.val (threeA b1 b2), .int .i64 3] w1 _ from m18 threeP (threeA b1 b2) 3 w1 (thR (h1.holds (both (thr1 b1) (thr2 b2)) memZ)) threeI) ?_; rintro v w2 ⟨a7, c7, rfl, hn⟩; rw [w_sides] at hn ⊢; refine LR.back (h1.newSl hn) ?_; clear hn h1) | (refine CallsTo.mono (show CallsTo Try.prog 20 [threeP.val (threeA b1 b2), .int .i64 1] w1 _ from m20 threeP (threeA b1 b2) 1 w1 (thR (h1.holds (both (thr1 b1) (thr2 b2)) memZ)) threeI) ?_; rintro v w2 ⟨a8, c8, rfl, hn⟩; rw [w_gws] at hn ⊢; refine LR.back (h1.newSl hn) ?_; clear hn h1) | (refine CallsTo.mono (show CallsTo Try.prog 24 [threeP.val (threeA b1 b2), .int .i64 0, .slice (some ⟨bk, 0, none⟩) 3 3] w1 _ from m24 threeP (threeA b1 b2) threeI 0 knownW (some ⟨bk, 0, none⟩) 3 w1 (thR (h1.holds (both (thr1 b1) (thr2 b2)) memZ)) (h1.rd_of_blk memZ) (by decide)) ?_; rintro v w2 ⟨a9, c9, rfl, hn⟩; rw [w_view0] at hn ⊢; refine LR.back (h1.newSl hn) ?_; clear hn h1) | (refine CallsTo.mono (show CallsTo Try.prog 24 [threeP.val (threeA b1 b2), .int .i64 2, .slice (some ⟨bk, 0, none⟩) 3 3] w1 _ from m24 threeP (threeA b1 b2) threeI 2 knownW (some ⟨bk, 0, none⟩) 3 w1 (thR (h1.holds (both (thr1 b1) (thr2 b2)) memZ)) (h1.rd_of_blk memZ) (by decide)) ?_; rintro v w2 ⟨a9, c9, rfl, hn⟩; rw [w_view2] at hn ⊢; refine LR.back (h1.newSl hn) ?_; clear hn h1) | (refine CallsTo.mono (show CallsTo Try.prog 27 [.slice none 0 0, (plcA 1 24).val] w1 _ from m27 sort_few [] none 0 (plcA 1 24) w1 (Rd.nil _ _) (fun _ => rfl) (by decide) (by decide) (by decide)) ?_; rintro v w2 ⟨a10, c10, rfl, hn⟩; rw [w_lrn] at hn ⊢; refine LR.back (h1.newSl hn) ?_; clear hn h1))))
    all_goals (refine At.stage_same (fun _ h => St.sub h subZ) ?_))
  all_goals (
    apply DW.quiet [37, 38]
    · decide +kernel
    · first | exact fun _ h => h | exact fun _ h => St.sub h subZ
    repeat'(first|(apply QL.evg; (iterate 3 exact rfl); (· apply Ev_hi; (· exact rfl); (· exact rfl); (· decide); (· decide)); (· exact rfl))|(apply QL.evg; (iterate 3 exact rfl); (· apply Ev_lo; (· exact rfl); (· exact rfl); (· decide); (· decide); (· decide)); (· exact rfl))|refine yv' ?_|refine uv' ?_|refine un' ?_|(refine us' ?_ ?_;all_goals(intro hc;try simp only[hcs]at hc;try(exfalso;first|contradiction|omega)))|apply QL.nil)
    all_goals (show DW _ _ _ _ _ _ _ _))
  all_goals (
    apply DW.loud 39
    · exact rfl
    · decide +kernel
    repeat'(first|refine kg' ?_|refine kG' ?_|apply kM|refine kv' ?_|refine kK' fun _=>?_|refine kU' ?_|refine kB' fun _=>?_|refine kA' fun _=>?_|(apply kq; (· exact rfl); (· intro w1 h1; first | (have hq := CallsTo.q (m13 threeP (threeA b1 b2) w1 (thR (h1.holds (both (thr1 b1) (thr2 b2)) memZ)) threeI) h1; rw [w_chk] at hq; exact hq) | (have hq := CallsTo.q (m15 threeP (threeA b1 b2) 3 0 w1 (thR (h1.holds (both (thr1 b1) (thr2 b2)) memZ)) threeI) h1; rw [w_far] at hq; exact hq) | exact CallsTo.q (m34 0 14 w1 (by decide)) h1 | exact CallsTo.q (m34 1 24 w1 (by decide)) h1 | exact CallsTo.q (m34 2 96 w1 (by decide)) h1 | exact CallsTo.q (show CallsTo Try.prog 17 [.slice a7 2 c7, .slice _ 2 2] w1 _ from t19 a7 _ c7 2 [0, 1] [0, 1] w1 (h1.rd_of_own memZ) (h1.rd_of_blk memZ) (by decide)) h1 | exact CallsTo.q (show CallsTo Try.prog 17 [.slice a8 2 c8, .slice _ 2 2] w1 _ from t19 a8 _ c8 2 [3, 5] [3, 5] w1 (h1.rd_of_own memZ) (h1.rd_of_blk memZ) (by decide)) h1 | exact CallsTo.q (show CallsTo Try.prog 25 [.slice a9 2 c9, .slice (some ⟨bk, 0, none⟩) 2 3] w1 _ from m25 a9 (some ⟨bk, 0, none⟩) c9 3 [plcA 0 14, plcA 1 24] [plcA 0 14, plcA 1 24] w1 (h1.rd_of_own memZ) (Rd.take 8 (h1.rd_of_blk (b := bk) (cs := pcs knownW) memZ)) (by decide)) h1 | exact CallsTo.q (show CallsTo Try.prog 25 [.slice a9 1 c9, .slice (some ⟨bk, 8, none⟩) 1 1] w1 _ from m25 a9 (some ⟨bk, 8, none⟩) c9 1 [plcA 2 96] [plcA 2 96] w1 (h1.rd_of_own memZ) (rd_from8 (h1.rd_of_blk (b := bk) (cs := pcs knownW) memZ)) (by decide)) h1))|(apply LR.call; (· exact rfl); (intro w1 h1; first | (refine CallsTo.mono (show CallsTo Try.prog 33 [] w1 _ from m33 w1) ?_; rintro v w2 ⟨b1, b2, rfl, hn⟩; refine LR.back (h1.got hn th_dep) ?_; clear hn h1) | (refine CallsTo.mono (show CallsTo Try.prog 18 [threeP.val (threeA b1 b2), .int .i64 3] w1 _ from m18 threeP (threeA b1 b2) 3 w1 (thR (h1.holds (both (thr1 b1) (thr2 b2)) memZ)) threeI) ?_; rintro v w2 ⟨a7, c7, rfl, hn⟩; rw [w_sides] at hn ⊢; refine LR.back (h1.newSl hn) ?_; clear hn h1) | (refine CallsTo.mono (show CallsTo Try.prog 20 [threeP.val (threeA b1 b2), .int .i64 1] w1 _ from m20 threeP (threeA b1 b2) 1 w1 (thR (h1.holds (both (thr1 b1) (thr2 b2)) memZ)) threeI) ?_; rintro v w2 ⟨a8, c8, rfl, hn⟩; rw [w_gws] at hn ⊢; refine LR.back (h1.newSl hn) ?_; clear hn h1) | (refine CallsTo.mono (show CallsTo Try.prog 24 [threeP.val (threeA b1 b2), .int .i64 0, .slice (some ⟨bk, 0, none⟩) 3 3] w1 _ from m24 threeP (threeA b1 b2) threeI 0 knownW (some ⟨bk, 0, none⟩) 3 w1 (thR (h1.holds (both (thr1 b1) (thr2 b2)) memZ)) (h1.rd_of_blk memZ) (by decide)) ?_; rintro v w2 ⟨a9, c9, rfl, hn⟩; rw [w_view0] at hn ⊢; refine LR.back (h1.newSl hn) ?_; clear hn h1) | (refine CallsTo.mono (show CallsTo Try.prog 24 [threeP.val (threeA b1 b2), .int .i64 2, .slice (some ⟨bk, 0, none⟩) 3 3] w1 _ from m24 threeP (threeA b1 b2) threeI 2 knownW (some ⟨bk, 0, none⟩) 3 w1 (thR (h1.holds (both (thr1 b1) (thr2 b2)) memZ)) (h1.rd_of_blk memZ) (by decide)) ?_; rintro v w2 ⟨a9, c9, rfl, hn⟩; rw [w_view2] at hn ⊢; refine LR.back (h1.newSl hn) ?_; clear hn h1) | (refine CallsTo.mono (show CallsTo Try.prog 27 [.slice none 0 0, (plcA 1 24).val] w1 _ from m27 sort_few [] none 0 (plcA 1 24) w1 (Rd.nil _ _) (fun _ => rfl) (by decide) (by decide) (by decide)) ?_; rintro v w2 ⟨a10, c10, rfl, hn⟩; rw [w_lrn] at hn ⊢; refine LR.back (h1.newSl hn) ?_; clear hn h1))))
    all_goals (refine At.stage_same (fun _ h => St.sub h subZ) ?_))
  all_goals (
    apply DW.loud 40
    · exact rfl
    · decide +kernel
    repeat'(first|refine kg' ?_|refine kG' ?_|apply kM|refine kv' ?_|refine kK' fun _=>?_|refine kU' ?_|refine kB' fun _=>?_|refine kA' fun _=>?_|(apply kq; (· exact rfl); (· intro w1 h1; first | (have hq := CallsTo.q (m13 threeP (threeA b1 b2) w1 (thR (h1.holds (both (thr1 b1) (thr2 b2)) memZ)) threeI) h1; rw [w_chk] at hq; exact hq) | (have hq := CallsTo.q (m15 threeP (threeA b1 b2) 3 0 w1 (thR (h1.holds (both (thr1 b1) (thr2 b2)) memZ)) threeI) h1; rw [w_far] at hq; exact hq) | exact CallsTo.q (m34 0 14 w1 (by decide)) h1 | exact CallsTo.q (m34 1 24 w1 (by decide)) h1 | exact CallsTo.q (m34 2 96 w1 (by decide)) h1 | exact CallsTo.q (show CallsTo Try.prog 17 [.slice a7 2 c7, .slice _ 2 2] w1 _ from t19 a7 _ c7 2 [0, 1] [0, 1] w1 (h1.rd_of_own memZ) (h1.rd_of_blk memZ) (by decide)) h1 | exact CallsTo.q (show CallsTo Try.prog 17 [.slice a8 2 c8, .slice _ 2 2] w1 _ from t19 a8 _ c8 2 [3, 5] [3, 5] w1 (h1.rd_of_own memZ) (h1.rd_of_blk memZ) (by decide)) h1 | exact CallsTo.q (show CallsTo Try.prog 25 [.slice a9 2 c9, .slice (some ⟨bk, 0, none⟩) 2 3] w1 _ from m25 a9 (some ⟨bk, 0, none⟩) c9 3 [plcA 0 14, plcA 1 24] [plcA 0 14, plcA 1 24] w1 (h1.rd_of_own memZ) (Rd.take 8 (h1.rd_of_blk (b := bk) (cs := pcs knownW) memZ)) (by decide)) h1 | exact CallsTo.q (show CallsTo Try.prog 25 [.slice a9 1 c9, .slice (some ⟨bk, 8, none⟩) 1 1] w1 _ from m25 a9 (some ⟨bk, 8, none⟩) c9 1 [plcA 2 96] [plcA 2 96] w1 (h1.rd_of_own memZ) (rd_from8 (h1.rd_of_blk (b := bk) (cs := pcs knownW) memZ)) (by decide)) h1))|(apply LR.call; (· exact rfl); (intro w1 h1; first | (refine CallsTo.mono (show CallsTo Try.prog 33 [] w1 _ from m33 w1) ?_; rintro v w2 ⟨b1, b2, rfl, hn⟩; refine LR.back (h1.got hn th_dep) ?_; clear hn h1) | (refine CallsTo.mono (show CallsTo Try.prog 18 [threeP.val (threeA b1 b2), .int .i64 3] w1 _ from m18 threeP (threeA b1 b2) 3 w1 (thR (h1.holds (both (thr1 b1) (thr2 b2)) memZ)) threeI) ?_; rintro v w2 ⟨a7, c7, rfl, hn⟩; rw [w_sides] at hn ⊢; refine LR.back (h1.newSl hn) ?_; clear hn h1) | (refine CallsTo.mono (show CallsTo Try.prog 20 [threeP.val (threeA b1 b2), .int .i64 1] w1 _ from m20 threeP (threeA b1 b2) 1 w1 (thR (h1.holds (both (thr1 b1) (thr2 b2)) memZ)) threeI) ?_; rintro v w2 ⟨a8, c8, rfl, hn⟩; rw [w_gws] at hn ⊢; refine LR.back (h1.newSl hn) ?_; clear hn h1) | (refine CallsTo.mono (show CallsTo Try.prog 24 [threeP.val (threeA b1 b2), .int .i64 0, .slice (some ⟨bk, 0, none⟩) 3 3] w1 _ from m24 threeP (threeA b1 b2) threeI 0 knownW (some ⟨bk, 0, none⟩) 3 w1 (thR (h1.holds (both (thr1 b1) (thr2 b2)) memZ)) (h1.rd_of_blk memZ) (by decide)) ?_; rintro v w2 ⟨a9, c9, rfl, hn⟩; rw [w_view0] at hn ⊢; refine LR.back (h1.newSl hn) ?_; clear hn h1) | (refine CallsTo.mono (show CallsTo Try.prog 24 [threeP.val (threeA b1 b2), .int .i64 2, .slice (some ⟨bk, 0, none⟩) 3 3] w1 _ from m24 threeP (threeA b1 b2) threeI 2 knownW (some ⟨bk, 0, none⟩) 3 w1 (thR (h1.holds (both (thr1 b1) (thr2 b2)) memZ)) (h1.rd_of_blk memZ) (by decide)) ?_; rintro v w2 ⟨a9, c9, rfl, hn⟩; rw [w_view2] at hn ⊢; refine LR.back (h1.newSl hn) ?_; clear hn h1) | (refine CallsTo.mono (show CallsTo Try.prog 27 [.slice none 0 0, (plcA 1 24).val] w1 _ from m27 sort_few [] none 0 (plcA 1 24) w1 (Rd.nil _ _) (fun _ => rfl) (by decide) (by decide) (by decide)) ?_; rintro v w2 ⟨a10, c10, rfl, hn⟩; rw [w_lrn] at hn ⊢; refine LR.back (h1.newSl hn) ?_; clear hn h1))))
    all_goals (refine At.stage_same (fun _ h => St.sub h subZ) ?_))
  all_goals (
    apply DW.quiet [41, 42, 43, 44]
    · decide +kernel
    · first | exact fun _ h => h | exact fun _ h => St.sub h subZ
    repeat'(first|(apply QL.evg; (iterate 3 exact rfl); (· apply Ev_hi; (· exact rfl); (· exact rfl); (· decide); (· decide)); (· exact rfl))|(apply QL.evg; (iterate 3 exact rfl); (· apply Ev_lo; (· exact rfl); (· exact rfl); (· decide); (· decide); (· decide)); (· exact rfl))|refine yv' ?_|refine uv' ?_|refine un' ?_|(refine us' ?_ ?_;all_goals(intro hc;try simp only[hcs]at hc;try(exfalso;first|contradiction|omega)))|apply QL.nil)
    all_goals (show DW _ _ _ _ _ _ _ _))
  all_goals (first | (apply DW.done_thn; (· decide +kernel)) | (apply DW.done; (· decide +kernel)))
  repeat'(first|refine kv' ?_|apply jJ|refine jE' ?_|refine jp' ?_|(apply jc;kernel_rfl)|refine kg' ?_|refine kG' ?_|refine kB' fun _=>?_|refine kA' fun _=>?_|refine kK' fun _=>?_|refine kU' ?_|((first|refine kR' ?_ ?_|refine kQ' ?_ ?_);all_goals(intro hc;try simp only[hcs]at hc;try(exfalso;first|contradiction|omega))))
  (apply ret1; (· exact rfl); intro w' hS)
  exact ⟨rfl, hS.toKeep⟩
end Go.Proofs.Ytgblmkpfkcibiaa

namespace Go.Proofs.Ytgblmkpfkcibiaa
open Go.Hb
attribute [local irreducible] LR CW At Ev thn blk finK noG again CallsTo DW QL dnext
set_option maxRecDepth 100000

end Go.Proofs.Ytgblmkpfkcibiaa

namespace Go.Proofs.Ytgblmkpfkcibiaa
open Go.Hb Go.ChangeShapes Go.WideShapes
attribute [local irreducible] LR CW At Ev thn blk finK noG again CallsTo DW QL dnext
set_option maxRecDepth 100000

theorem own_knob : ownKnob Try.prog.godebug = none := by kernel_rfl
theorem kids : Kids Try.prog (· < Try.prog.types.size) := kids_rows (by kernel_rfl) (by kernel_rfl)
theorem full_slices : ∀ t e, t < Try.prog.types.size → Try.prog.underlying t = some (.slice e) → 0 < Try.prog.cellsOf e := slices_full_of _ (by kernel_rfl)

def i64G : World → List Value → Prop := fun _ cs => ∃ n, cs = [.int .i64 n] ∧ i64 n
theorem opn_i64 : Opn Try.prog 3 i64G := (opn_int Try.underlying3).mono fun w cs ⟨n, h1, h2⟩ => ⟨n, h1, bounds_i64 h2⟩
theorem opn_ring : Opn Try.prog 42 (fun _ cs => ∃ s r, cs = [.int .i64 s, .int .i64 r] ∧ i64 s ∧ i64 r) := by
  refine (opn_struct Try.underlying42).mono fun w cs ⟨hl, h⟩ => ?_
  have hl : cs.length = 2 := hl
  match cs, hl with
  | [x, y], _ =>
    obtain ⟨a, ha, ha2⟩ := h 0 _ rfl _ opn_i64
    obtain ⟨b, hb, hb2⟩ := h 1 _ rfl _ opn_i64
    have ha : [x] = [Value.int .i64 a] := ha
    have hb : [y] = [Value.int .i64 b] := hb
    exact ⟨a, b, by rw [List.singleton_inj] at ha hb; rw [ha, hb], ha2, hb2⟩
theorem opn_plc : Opn Try.prog 44 (fun _ cs => ∃ p : Plc, cs = p.cells ∧ i64 p.ring ∧ i64 p.seq ∧ i64 p.rep ∧ i64 p.members) := by
  refine (opn_struct Try.underlying44).mono fun w cs ⟨hl, h⟩ => ?_
  have hl : cs.length = 4 := hl
  match cs, hl with
  | [x, y, z, u], _ =>
    obtain ⟨a, ha, ha2⟩ := h 0 _ rfl _ opn_i64
    obtain ⟨b, c, hb, hb2, hc2⟩ := h 1 _ rfl _ opn_ring
    obtain ⟨d, hd, hd2⟩ := h 2 _ rfl _ opn_i64
    have ha : [x] = [Value.int .i64 a] := ha
    have hb : [y, z] = [Value.int .i64 b, .int .i64 c] := hb
    have hd : [u] = [Value.int .i64 d] := hd
    simp only [List.cons.injEq, and_true] at ha hb hd
    exact ⟨⟨a, b, c, d⟩, by rw [ha, hb.1, hb.2, hd]; rfl, ha2, hb2, hc2, hd2⟩
theorem plcs_of : ∀ (css : List (List Value)), (∀ c ∈ css, ∃ p : Plc, c = p.cells ∧ i64 p.ring ∧ i64 p.seq ∧ i64 p.rep ∧ i64 p.members) → ∃ ps : List Plc, css.flatten = pcs ps ∧ ps.length = css.length ∧ plcsI ps
  | [], _ => ⟨[], rfl, rfl, fun p hp => by simp at hp⟩
  | c :: r, h => by
    obtain ⟨p, rfl, hp⟩ := h c List.mem_cons_self
    obtain ⟨ps, h1, h2, h3⟩ := plcs_of r fun c hc => h c (List.mem_cons_of_mem _ hc)
    refine ⟨p :: ps, by rw [List.flatten_cons, h1]; rfl, by simp [h2], fun q hq => ?_⟩
    rcases List.mem_cons.1 hq with rfl | hq
    · exact hp
    · exact h3 q hq
theorem opn_plcs : Opn Try.prog 37 (fun w cs => ∃ (a : Option Addr) (c : Nat) (ps : List Plc), cs = [.slice a ps.length c] ∧ Rd w a (pcs ps) ∧ plcsI ps ∧ (a = none → c = 0) ∧ ps.length ≤ c ∧ ps.length * 32 ≤ 140737488351232) := by
  refine (opn_slice Try.underlying37 (sz := 4) (by_ := 32) (by kernel_rfl) (by omega) (by kernel_rfl) opn_plc).mono ?_
  rintro w cs ⟨a, len, cap, css, rfl, rfl, hg, hr, hz, hc, hm⟩
  obtain ⟨ps, h1, h2, h3⟩ := plcs_of css fun c hc => (hg c hc).1
  rw [h1] at hr
  exact ⟨a, cap, ps, by rw [h2], hr, h3, hz, by omega, by rw [h2]; exact hm⟩
end Go.Proofs.Ytgblmkpfkcibiaa

namespace Go.Proofs.Ytgblmkpfkcibiaa
open Go.Hb
attribute [local irreducible] LR CW At Ev thn blk finK noG again CallsTo DW QL dnext
set_option maxRecDepth 100000

end Go.Proofs.Ytgblmkpfkcibiaa

namespace Go.Proofs.Ytgblmkpfkcibiaa
open Go.Hb
attribute [local irreducible] LR CW At Ev thn blk finK noG again CallsTo DW QL dnext
set_option maxRecDepth 100000

end Go.Proofs.Ytgblmkpfkcibiaa

namespace Go.Proofs.Ytgblmkpfkcibiaa
open Go.Hb Go.ChangeShapes Go.WideShapes
attribute [local irreducible] LR CW At Ev thn blk finK noG again CallsTo DW QL dnext
set_option maxRecDepth 100000

end Go.Proofs.Ytgblmkpfkcibiaa

namespace Go.Proofs.Ytgblmkpfkcibiaa
open Go.Hb
set_option maxRecDepth 100000

structure Vst where
  node : Int
  aru : Int
  gaps : List Int
def Vst.cells (v : Vst) (a : Option Addr) (c : Nat) : List Value := [.int .i64 v.node, .int .i64 v.aru, .slice a v.gaps.length c]
def Vst.val (v : Vst) (a : Option Addr) (c : Nat) : Value := .agg (v.cells a c).toArray
end Go.Proofs.Ytgblmkpfkcibiaa

namespace Go.Proofs.Ytgblmkpfkcibiaa
open Go.Hb Go.ChangeShapes Go.WideShapes
attribute [local irreducible] LR CW At Ev thn blk finK noG again CallsTo DW QL dnext TW DP gpost
set_option maxRecDepth 100000

section
variable {P : Program} {C : World → Prop} {f : Frm} {T T' T'' : TypeId} {x y : Operand}
end
end Go.Proofs.Ytgblmkpfkcibiaa

namespace Go.Proofs.Ytgblmkpfkcibiaa
open Go.Hb
attribute [local irreducible] LR CW At Ev thn blk finK noG again CallsTo DW QL dnext TW DP gpost
set_option maxRecDepth 100000

theorem x25 (a b : Option Addr) (ca cb : Nat) (l : List Plc) (w : World) (ha : Rd w a (pcs l)) (hb : Rd w b (pcs l)) (hm : l.length ≤ 17592186043904) :
    CallsTo Try.prog 25 [.slice a l.length ca, .slice b l.length cb] w fun v w' => v = .bool true ∧ Grew w w' := by
  have h := m25 a b ca cb l l w ha hb hm
  rw [decide_eq_true rfl] at h
  exact h
end Go.Proofs.Ytgblmkpfkcibiaa

namespace Go.Proofs.Ytgblmkpfkcibiaa
open Go.Hb
attribute [local irreducible] LR CW At Ev thn blk finK noG again CallsTo DW QL dnext TW DP gpost
set_option maxRecDepth 100000

section
variable {P : Program} {C : World → Prop} {f : Frm} {T T' T'' : TypeId} {x y : Operand} {k : IntKind} {a b : Int}
theorem Ev.gtrT (hx : f.ev x = .int k a) (hy : f.ev y = .int k b) (h : b < a) : Ev P C f (.binOp .gtr T' x y T'') T (.bool true) := by
  have h1 := Ev.gtr (P := P) (C := C) (T := T) (T' := T') (T'' := T'') hx hy
  rwa [decide_eq_true h] at h1
theorem Ev.gtrF (hx : f.ev x = .int k a) (hy : f.ev y = .int k b) (h : ¬ b < a) : Ev P C f (.binOp .gtr T' x y T'') T (.bool false) := by
  have h1 := Ev.gtr (P := P) (C := C) (T := T) (T' := T') (T'' := T'') hx hy
  rwa [decide_eq_false h] at h1
theorem Ev.leqF (hx : f.ev x = .int k a) (hy : f.ev y = .int k b) (h : ¬ a ≤ b) : Ev P C f (.binOp .leq T' x y T'') T (.bool false) := by
  have h1 := Ev.leq (P := P) (C := C) (T := T) (T' := T') (T'' := T'') hx hy
  rwa [decide_eq_false h] at h1
end
end Go.Proofs.Ytgblmkpfkcibiaa

namespace Go.Proofs.Ytgblmkpfkcibiaa
open Go.Hb
attribute [local irreducible] LR CW At Ev thn blk finK noG again CallsTo DW QL dnext TW DP gpost
set_option maxRecDepth 100000

structure LessP (x z : Plc) : Prop where
  ring : x.ring = z.ring
  mem : ∀ n, hasC x.members n = true → hasC z.members n = true
theorem Rch.mono {s t : Int → Int → Bool} (h : ∀ a b, s a b = true → t a b = true) {a b : Int} (hr : Rch s a b) : Rch t a b := by
  induction hr with
  | refl => exact .refl
  | step _ hs ih => exact .step ih (h _ _ hs)
end Go.Proofs.Ytgblmkpfkcibiaa

namespace Go.Proofs.Ytgblmkpfkcibiaa
open Go.Hb
attribute [local irreducible] LR CW At Ev thn blk finK noG again CallsTo DW QL dnext TW DP gpost
set_option maxRecDepth 100000

end Go.Proofs.Ytgblmkpfkcibiaa

namespace Go.Proofs.Ytgblmkpfkcibiaa
open Go.Hb

theorem ringsM_le {s r s' r' : Int} : ringsM s r s' r' ≤ 0 ↔ (s < s' ∨ (s = s' ∧ r ≤ r')) := by
  unfold ringsM cmpM
  repeat' split
  all_goals omega
theorem ringsM_ge {s r s' r' : Int} : 0 ≤ ringsM s r s' r' ↔ (s' < s ∨ (s = s' ∧ r' ≤ r)) := by
  unfold ringsM cmpM
  repeat' split
  all_goals omega
structure KnO (A T : List Plc) : Prop where
  asc : (A.map Plc.ring).Pairwise (· < ·)
  mem : ∀ y ∈ A, y ∈ T ∧ mayP y = true
  top : ∀ x ∈ T, mayP x = true → ∃ y ∈ A, y.ring = x.ring ∧ ringsM x.seq x.rep y.seq y.rep ≤ 0
theorem KnO.nil : KnO [] [] := ⟨List.Pairwise.nil, fun y h => (by cases h), fun x h => (by cases h)⟩
theorem KnO.one {A T : List Plc} (h : KnO A T) {y z : Plc} (hy : y ∈ A) (hz : z ∈ A) (e : y.ring = z.ring) : y = z := by
  obtain ⟨i, hi, rfl⟩ := List.getElem_of_mem hy
  obtain ⟨j, hj, rfl⟩ := List.getElem_of_mem hz
  have hp := List.pairwise_iff_getElem.1 h.asc
  rcases Nat.lt_trichotomy i j with hij | hij | hij
  · have := hp i j (by simpa using hi) (by simpa using hj) hij
    simp only [List.getElem_map] at this
    omega
  · subst hij; rfl
  · have := hp j i (by simpa using hj) (by simpa using hi) hij
    simp only [List.getElem_map] at this
    omega
def NoClash (T : List Plc) : Prop := ∀ x ∈ T, ∀ y ∈ T, x.ring = y.ring → x.seq = y.seq → x.rep = y.rep → x = y
theorem KnO.uniq {A B T U : List Plc} (h : KnO A T) (h2 : KnO B U) (hTU : ∀ x, x ∈ T ↔ x ∈ U) (hn : NoClash T) : A = B := by
  have key : ∀ {A B T U : List Plc}, KnO A T → KnO B U → (∀ x, x ∈ T ↔ x ∈ U) → NoClash T → ∀ y ∈ A, y ∈ B := by
    intro A B T U h h2 hTU hn y hy
    have hyT := h.mem y hy
    obtain ⟨z, hz, e1, e2⟩ := h2.top y ((hTU y).1 hyT.1) hyT.2
    have hzU := h2.mem z hz
    obtain ⟨y', hy', e3, e4⟩ := h.top z ((hTU z).2 hzU.1) hzU.2
    have e : y' = y := h.one hy' hy (by omega)
    subst e
    rw [ringsM_le] at e2 e4
    have : y' = z := hn y' hyT.1 z ((hTU z).2 hzU.1) (by omega) (by omega) (by omega)
    rw [this]; exact hz
  have k1 := key h h2 hTU hn
  have k2 := key h2 h (fun x => (hTU x).symm) (fun x hx y hy => hn x ((hTU x).2 hx) y ((hTU y).2 hy))
  have e : A.map Plc.ring = B.map Plc.ring := asc_extM h.asc h2.asc fun x => by
    simp only [List.mem_map]
    exact ⟨fun ⟨y, hy, e⟩ => ⟨y, k1 y hy, e⟩, fun ⟨y, hy, e⟩ => ⟨y, k2 y hy, e⟩⟩
  have hl : A.length = B.length := by have := congrArg List.length e; simpa using this
  refine List.ext_getElem hl fun i h1 h3 => ?_
  refine h2.one (k1 _ (List.getElem_mem h1)) (List.getElem_mem h3) ?_
  have := congrArg (fun l => l[i]?) e
  simp only [List.getElem?_map, List.getElem?_eq_getElem h1, List.getElem?_eq_getElem h3, Option.map_some, Option.some.injEq] at this
  exact this
theorem sor_asc {l : List Plc} (hs : SorP l) (hn : (l.map Plc.ring).Nodup) : (l.map Plc.ring).Pairwise (· < ·) := by
  rw [List.pairwise_map]
  unfold List.Nodup at hn
  rw [List.pairwise_map] at hn
  exact (List.Pairwise.and hs hn).imp fun ⟨h1, h2⟩ => by omega
theorem isP_asc {l : List Plc} (hn : (l.map Plc.ring).Nodup) : ((isP l).map Plc.ring).Pairwise (· < ·) :=
  sor_asc (isP_sor l) (((isP_perm l).map Plc.ring).nodup_iff.2 hn)
theorem asc_nd {l : List Plc} (h : (l.map Plc.ring).Pairwise (· < ·)) : (l.map Plc.ring).Nodup := h.imp fun h => by omega
theorem lrn_mem {K : List Plc} {x y : Plc} : y ∈ lrnP K x ↔ y ∈ lrnL K x := (isP_perm _).mem_iff
theorem KnO.step {A T : List Plc} (h : KnO A T) (x : Plc) : KnO (lrnP A x) (T ++ [x]) := by
  cases ht : takesP A x with
  | true =>
    have hl := lrn_yes ht
    unfold takesP at ht
    rw [Bool.and_eq_true, Bool.not_eq_true'] at ht
    obtain ⟨hm, hno⟩ := ht
    have hany : ∀ y ∈ A, y.ring = x.ring → ¬ 0 ≤ ringsM y.seq y.rep x.seq x.rep := by
      intro y hy e h0
      unfold anyR at hno
      rw [List.any_eq_false] at hno
      exact hno y hy (by simp [e, h0])
    have hmem : ∀ y, y ∈ lrnP A x ↔ (y ∈ A ∧ y.ring ≠ x.ring) ∨ y = x := by
      intro y
      rw [lrn_mem, hl, List.mem_append, List.mem_singleton]
      unfold noP
      rw [List.mem_filter, decide_eq_true_eq]
    refine ⟨?_, fun y hy => ?_, fun z hz hzm => ?_⟩
    · unfold lrnP
      rw [hl]
      refine isP_asc ?_
      rw [List.map_append, List.nodup_append]
      refine ⟨(asc_nd h.asc).sublist (List.Sublist.map _ (List.filter_sublist (l := A))), by simp, fun a ha b hb e => ?_⟩
      simp only [List.map_cons, List.map_nil, List.mem_singleton] at hb
      obtain ⟨y, hy, hyr⟩ := List.mem_map.1 ha
      unfold noP at hy
      rw [List.mem_filter, decide_eq_true_eq] at hy
      exact hy.2 (by omega)
    · rcases (hmem y).1 hy with ⟨h1, _⟩ | rfl
      · exact ⟨List.mem_append.2 (.inl (h.mem y h1).1), (h.mem y h1).2⟩
      · exact ⟨List.mem_append.2 (.inr (List.mem_singleton.2 rfl)), hm⟩
    · rcases List.mem_append.1 hz with hz | hz
      · obtain ⟨y, hy, e, hle⟩ := h.top z hz hzm
        by_cases hyx : y.ring = x.ring
        · refine ⟨x, (hmem x).2 (.inr rfl), by omega, ?_⟩
          have h0 := hany y hy hyx
          rw [ringsM_ge] at h0
          rw [ringsM_le] at hle ⊢
          omega
        · exact ⟨y, (hmem y).2 (.inl ⟨hy, hyx⟩), e, hle⟩
      · rw [List.mem_singleton] at hz
        subst hz
        refine ⟨z, (hmem z).2 (.inr rfl), rfl, ?_⟩
        rw [ringsM_le]; omega
  | false =>
    have hl := lrn_no ht
    have hmem : ∀ y, y ∈ lrnP A x ↔ y ∈ A := fun y => by rw [lrn_mem, hl]
    refine ⟨?_, fun y hy => ?_, fun z hz hzm => ?_⟩
    · unfold lrnP
      rw [hl]
      exact isP_asc (asc_nd h.asc)
    · have h1 := h.mem y ((hmem y).1 hy)
      exact ⟨List.mem_append.2 (.inl h1.1), h1.2⟩
    · rcases List.mem_append.1 hz with hz | hz
      · obtain ⟨y, hy, e, hle⟩ := h.top z hz hzm
        exact ⟨y, (hmem y).2 hy, e, hle⟩
      · rw [List.mem_singleton] at hz
        subst hz
        unfold takesP at ht
        rw [hzm, Bool.true_and, Bool.not_eq_false'] at ht
        unfold anyR at ht
        obtain ⟨y, hy, hy2⟩ := List.any_eq_true.1 ht
        simp only [Bool.and_eq_true, decide_eq_true_eq] at hy2
        refine ⟨y, (hmem y).2 hy, hy2.1, ?_⟩
        have := hy2.2
        rw [ringsM_ge] at this
        rw [ringsM_le]
        omega
theorem may_rng {x : Plc} (h : mayP x = true) : 0 ≤ x.ring ∧ x.ring < 4 := by
  unfold mayP at h
  simp only [Bool.and_eq_true, decide_eq_true_eq] at h
  exact ⟨h.1.1, h.1.2.1⟩
theorem KnO.len {A T : List Plc} (h : KnO A T) : A.length ≤ 4 := by
  have := asc_lenM (A.map Plc.ring) 0 4 h.asc (fun r hr => by
    obtain ⟨y, hy, rfl⟩ := List.mem_map.1 hr
    have := may_rng (h.mem y hy).2
    omega)
  simpa using this
theorem KnO.again {A T : List Plc} (h : KnO A T) (hn : NoClash T) {x : Plc} (hx : x ∈ T) : lrnP A x = A := by
  have hs := h.step x
  have e : ∀ y, y ∈ T ↔ y ∈ T ++ [x] := fun y => by
    rw [List.mem_append, List.mem_singleton]
    exact ⟨.inl, fun h => h.elim id fun e => e ▸ hx⟩
  exact (h.uniq hs e hn).symm
def lrnAll (l : List Plc) : List Plc := l.foldl lrnP []
theorem lrnAll_snoc (l : List Plc) (x : Plc) : lrnAll (l ++ [x]) = lrnP (lrnAll l) x := by unfold lrnAll; rw [List.foldl_append]; rfl
theorem lrnAll_ok (l : List Plc) : KnO (lrnAll l) l := by
  have : ∀ (l A T : List Plc), KnO A T → KnO (l.foldl lrnP A) (T ++ l) := by
    intro l
    induction l with
    | nil => intro A T h; rw [List.append_nil]; exact h
    | cons x r ih =>
      intro A T h
      have := ih _ _ (h.step x)
      rwa [List.append_assoc, List.singleton_append] at this
  exact this l [] [] KnO.nil
theorem lrnAll_take {l : List Plc} {i : Nat} (h : i < l.length) : lrnAll (l.take (i + 1)) = lrnP (lrnAll (l.take i)) l[i] := by
  rw [List.take_add_one, List.getElem?_eq_getElem h]; exact lrnAll_snoc _ _
theorem lrnAll_rev {l : List Plc} (hn : NoClash l) : lrnAll l.reverse = lrnAll l := (lrnAll_ok l.reverse).uniq (lrnAll_ok l) (fun x => List.mem_reverse) (fun x hx y hy => hn x (List.mem_reverse.1 hx) y (List.mem_reverse.1 hy))
theorem lrnAll_len (l : List Plc) : (lrnAll l).length ≤ 4 := (lrnAll_ok l).len
theorem lrn_nil (x : Plc) : lrnP [] x = if mayP x then [x] else [] := by
  cases h : mayP x with
  | true =>
    have : takesP [] x = true := by unfold takesP anyR; rw [h]; rfl
    unfold lrnP; rw [lrn_yes this]; rfl
  | false =>
    have : takesP [] x = false := by unfold takesP; rw [h]; rfl
    unfold lrnP; rw [lrn_no this]; rfl
end Go.Proofs.Ytgblmkpfkcibiaa

namespace Go.Proofs.Ytgblmkpfkcibiaa
open Go.Hb
attribute [local irreducible] LR CW At Ev thn blk finK noG again CallsTo DW QL dnext TW DP gpost
set_option maxRecDepth 100000

section
variable {P : Program} {C : World → Prop} {f : Frm} {T T' T'' : TypeId} {x y : Operand} {k : IntKind} {a b c d a' b' c' d' : Int}
theorem Ev.eqlT (hx : f.ev x = .int k a) (hy : f.ev y = .int k b) (h : a = b) : Ev P C f (.binOp .eql T' x y T'') T (.bool true) := by
  have h1 := Ev.eql (P := P) (C := C) (T := T) (T' := T') (T'' := T'') hx hy
  rwa [decide_eq_true h] at h1
theorem Ev.eqlF (hx : f.ev x = .int k a) (hy : f.ev y = .int k b) (h : ¬ a = b) : Ev P C f (.binOp .eql T' x y T'') T (.bool false) := by
  have h1 := Ev.eql (P := P) (C := C) (T := T) (T' := T') (T'' := T'') hx hy
  rwa [decide_eq_false h] at h1
theorem Ev.eq2T [Eqs P T' 2] (hx : f.ev x = .agg [.int .i64 a, .int .i64 b].toArray) (hy : f.ev y = .agg [.int .i64 a', .int .i64 b'].toArray) (h : a = a' ∧ b = b') : Ev P C f (.binOp .eql T' x y T'') T (.bool true) := by
  have h1 := Ev.eq2 (P := P) (C := C) (T := T) (T' := T') (T'' := T'') hx hy
  rwa [decide_eq_true (by rw [h.1, h.2])] at h1
theorem Ev.eq2F [Eqs P T' 2] (hx : f.ev x = .agg [.int .i64 a, .int .i64 b].toArray) (hy : f.ev y = .agg [.int .i64 a', .int .i64 b'].toArray) (h : ¬ (a = a' ∧ b = b')) : Ev P C f (.binOp .eql T' x y T'') T (.bool false) := by
  have h1 := Ev.eq2 (P := P) (C := C) (T := T) (T' := T') (T'' := T'') hx hy
  rwa [decide_eq_false (fun e => h (by simpa using e))] at h1
theorem Ev.ne4F [Eqs P T' 4] (hx : f.ev x = .agg [.int .i64 a, .int .i64 b, .int .i64 c, .int .i64 d].toArray) (hy : f.ev y = .agg [.int .i64 a', .int .i64 b', .int .i64 c', .int .i64 d'].toArray) (h : a = a' ∧ b = b' ∧ c = c' ∧ d = d') : Ev P C f (.binOp .neq T' x y T'') T (.bool false) := by
  have h1 := Ev.ne4 (P := P) (C := C) (T := T) (T' := T') (T'' := T'') hx hy
  rwa [decide_eq_true (by rw [h.1, h.2.1, h.2.2.1, h.2.2.2])] at h1
theorem Ev.ne4T [Eqs P T' 4] (hx : f.ev x = .agg [.int .i64 a, .int .i64 b, .int .i64 c, .int .i64 d].toArray) (hy : f.ev y = .agg [.int .i64 a', .int .i64 b', .int .i64 c', .int .i64 d'].toArray) (h : ¬ (a = a' ∧ b = b' ∧ c = c' ∧ d = d')) : Ev P C f (.binOp .neq T' x y T'') T (.bool true) := by
  have h1 := Ev.ne4 (P := P) (C := C) (T := T) (T' := T') (T'' := T'') hx hy
  rwa [decide_eq_false (fun e => h (by simpa using e))] at h1
theorem Ev.remTo {r : Int} (h : a.tmod b = r) (hx : f.ev x = .int k a) (hy : f.ev y = .int k b) (hb : b ≠ 0) : Ev P C f (.binOp .rem T' x y T'') T (.int k r) := h ▸ Ev.rem hx hy hb
end
theorem St.soft {w0 w : World} {F : Nat → Prop} {L : List Asrt} {a : Option Addr} {c E sz n : Nat} {xs : List Value} (h : St w0 F (osl (.slice a n c) E sz n xs :: L) w) : St w0 F (rdA a xs :: L) w := by
  have hsub : ∀ k, rdFoot a xs k → (Value.slice a n c).ownBlock = some k := by
    rintro k ⟨_, ad, rfl, rfl⟩; rfl
  have hd := List.pairwise_cons.1 h.dis
  refine ⟨h.os, h.tape, h.output, h.size, h.keep, ?_, ?_, ?_, List.pairwise_cons.2 ⟨fun b hb he k hk => hd.1 b hb rfl k (hsub k hk), hd.2⟩, ?_⟩
  · intro b hb
    rcases List.mem_cons.1 hb with rfl | hb
    · exact ownsRow_rd (h.holds _ List.mem_cons_self)
    · exact h.holds b (List.mem_cons_of_mem _ hb)
  · intro b hb k hk
    rcases List.mem_cons.1 hb with rfl | hb
    · exact h.live _ List.mem_cons_self k (hsub k hk)
    · exact h.live b (List.mem_cons_of_mem _ hb) k hk
  · intro b hb he k hk
    rcases List.mem_cons.1 hb with rfl | hb
    · cases he
    · exact h.mine b (List.mem_cons_of_mem _ hb) he k hk
  · intro b hb
    rcases List.mem_cons.1 hb with rfl | hb
    · exact Rd.dep a xs
    · exact h.dep b (List.mem_cons_of_mem _ hb)
theorem St.twice {w0 w : World} {F : Nat → Prop} {L : List Asrt} {a : Option Addr} {xs : List Value} (h : St w0 F (rdA a xs :: L) w) : St w0 F (rdA a xs :: rdA a xs :: L) w := by
  refine ⟨h.os, h.tape, h.output, h.size, h.keep, ?_, ?_, ?_, List.pairwise_cons.2 ⟨fun b hb he k hk => ?_, h.dis⟩, ?_⟩
  · exact fun b hb => h.holds b (by rcases List.mem_cons.1 hb with rfl | hb; exact List.mem_cons_self; exact hb)
  · exact fun b hb => h.live b (by rcases List.mem_cons.1 hb with rfl | hb; exact List.mem_cons_self; exact hb)
  · exact fun b hb => h.mine b (by rcases List.mem_cons.1 hb with rfl | hb; exact List.mem_cons_self; exact hb)
  · rcases List.mem_cons.1 hb with rfl | hb
    · cases he
    · exact (List.pairwise_cons.1 h.dis).1 b hb he k hk
  · exact fun b hb => h.dep b (by rcases List.mem_cons.1 hb with rfl | hb; exact List.mem_cons_self; exact hb)
structure Cs2 where
  k : Nat
  a : Option Addr
  c : Nat
  a2 : Option Addr
  c2 : Nat
def bringI (a n : Int) : Int := if a.tmod n < 0 then a.tmod n + n else a.tmod n
theorem bring_rng {a n : Int} (h : 0 < n) : 0 ≤ bringI a n ∧ bringI a n < n := by
  have h1 := Int.tmod_lt_of_pos a h
  have h2 : -n < a.tmod n := by
    have := Int.tmod_lt_of_pos (-a) h
    rw [Int.neg_tmod] at this
    omega
  unfold bringI
  split <;> omega
theorem m31 (a n : Int) (w : World) (hn : 0 < n ∧ n ≤ 1000) : CallsTo Try.prog 31 [.int .i64 a, .int .i64 n] w fun v w' => v = .int .i64 (bringI a n) ∧ Grew w w' := by
  have h1 := Int.tmod_lt_of_pos a hn.1
  have h2 : -n < a.tmod n := by
    have := Int.tmod_lt_of_pos (-a) hn.1
    rw [Int.neg_tmod] at this
    omega
  unfold bringI
  generalize hr : a.tmod n = r at h1 h2 ⊢
  refine go_in (n := 16) (St.refl _ NoF) Try.func31 rfl rfl ?_
  repeat'(first|(apply LR.ev; (· apply Ev.remTo hr; (· exact rfl); (· exact rfl); (· omega)); (· exact rfl))|refine kv' ?_|apply jJ|refine jE' ?_|refine jp' ?_|(apply jc;kernel_rfl)|refine kg' ?_|refine kG' ?_|refine kB' fun _=>?_|refine kA' fun _=>?_|refine kK' fun _=>?_|refine kU' ?_|(apply addX;(iterate 2 exact rfl);(iterate 2(first|omega|(dsimp only;omega)));exact rfl)|((first|refine kR' ?_ ?_|refine kQ' ?_ ?_);all_goals(intro hc;try simp only[hcs]at hc;try(exfalso;first|contradiction|omega))))
  all_goals (
    (apply ret1; (· exact rfl); intro w' hS)
    first
      | (rw [if_pos (by assumption)]; exact ⟨rfl, hS.toKeep⟩)
      | (rw [if_neg (by omega)]; exact ⟨rfl, hS.toKeep⟩))
def clash (y x : Plc) : Prop := y.ring = x.ring ∧ (y.seq = x.seq ∧ y.rep = x.rep) ∧ ¬ (y.ring = x.ring ∧ y.seq = x.seq ∧ y.rep = x.rep ∧ y.members = x.members)
set_option maxHeartbeats 8000000 in
theorem m8 (a : Option Addr) (c : Nat) (l : List Plc) (fr : Int) (w : World) (hk : Rd w a (pcs l)) (hl : plcsI l) (hm : l.length * 32 ≤ 140737488351232) :
    CallsTo Try.prog 8 [.slice a l.length c, .int .i64 fr] w fun v w' => v = .bool true ∧ Grew w w' := by
  refine go_in (n := 183) (St.rd1 hk) Try.func8 rfl rfl ?_
  by_cases h60 : 60 < l.length
  · repeat'(first|refine kv' ?_|apply jJ|refine jE' ?_|refine jp' ?_|(apply jc;kernel_rfl)|refine kg' ?_|refine kG' ?_|refine kB' fun _=>?_|refine kA' fun _=>?_|refine kK' fun _=>?_|refine kU' ?_|(apply kq; (· exact rfl); (· intro w1 h1; exact CallsTo.q (m22 w1) h1))|((first|refine kR' ?_ ?_|refine kQ' ?_ ?_);all_goals(intro hc;try simp only[hcs]at hc;try(exfalso;first|contradiction|omega))))
    (apply ret1; (· exact rfl); intro w' hS)
    exact ⟨rfl, hS.toKeep⟩
  repeat'(first|refine kv' ?_|apply jJ|refine jE' ?_|refine jp' ?_|(apply jc;kernel_rfl)|refine kg' ?_|refine kG' ?_|refine kB' fun _=>?_|refine kA' fun _=>?_|refine kK' fun _=>?_|refine kU' ?_|(apply kq; (· exact rfl); (· intro w1 h1; exact CallsTo.q (m22 w1) h1))|((first|refine kR' ?_ ?_|refine kQ' ?_ ?_);all_goals(intro hc;try simp only[hcs]at hc;try(exfalso;first|contradiction|omega))))
  apply CW.loop [4, 5, 6, 19, 20, 21, 22, 23, 24, 25, 26, 27, 28, 29, 30, 31, 32, 33, 34, 35, 36, 37, 38, 39, 40, 41, 42, 43, 44, 45, 46, 47, 48, 49, 50, 51, 52, 53, 54, 55, 56, 57, 58, 59, 60, 61, 62, 63, 64] (fun i : Nat => i ≤ l.length ∧ ∀ p q x y, q < p → p < i → l[p]? = some x → l[q]? = some y → ¬ clash y x) (fun i : Nat => [(5, Value.int .i64 (i : Int))]) (fun _ => St w NoF [rdA a (pcs l)]) (fun i => l.length - i)
  · exact fun w' hw' => ⟨0, ⟨Nat.zero_le _, fun p q x y h1 h2 => by omega⟩, ⟨rfl, trivial⟩, hw'⟩
  rintro i g ⟨hi, hcl⟩
  by_cases hlt : i < l.length
  · obtain ⟨ba, oa, rfl⟩ := hk.form (fun e => by have h1 := congrArg List.length e; rw [pcs_length, List.length_nil] at h1; omega)
    obtain ⟨x, hx⟩ : ∃ x, l[i] = x := ⟨_, rfl⟩
    have hlx : l[i]? = some x := by rw [List.getElem?_eq_getElem hlt, hx]
    repeat'(first|refine kv' ?_|apply jJ|refine jE' ?_|refine jp' ?_|(apply jc;kernel_rfl)|refine kg' ?_|refine kG' ?_|refine kB' fun _=>?_|refine kA' fun _=>?_|refine kK' fun _=>?_|refine kU' ?_|((first|refine kR' ?_ ?_|refine kQ' ?_ ?_);all_goals(intro hc;try simp only[hcs]at hc;try(exfalso;first|contradiction|omega))))
    apply CW.loop [4, 6, 25, 26, 27, 28, 29, 30, 31, 32, 33, 34, 35, 36, 37, 38, 39, 40, 41, 42, 43, 44, 45, 46, 47, 48, 49, 50, 51, 52, 53, 54, 55, 56, 57, 58, 59, 60, 61, 62, 63, 64] (fun j : Nat => j ≤ i ∧ ∀ q y, q < j → l[q]? = some y → ¬ clash y x) (fun j : Nat => [(6, Value.int .i64 (j : Int))]) (fun _ => St w NoF [rdA (some ⟨ba, oa, none⟩) (pcs l)]) (fun j => i - j)
    · exact fun w' hw' => ⟨0, ⟨Nat.zero_le _, fun q y h => by omega⟩, ⟨rfl, trivial⟩, hw'⟩
    rintro j g ⟨hj, hclj⟩
    by_cases hjt : j < i
    · have hjl : j < l.length := by omega
      obtain ⟨y, hy⟩ : ∃ y, l[j] = y := ⟨_, rfl⟩
      have hly : l[j]? = some y := by rw [List.getElem?_eq_getElem hjl, hy]
      have hgo : ¬ clash y x → ∀ q z, q < j + 1 → l[q]? = some z → ¬ clash z x := fun h q z hq hz => by
        by_cases hqj : q = j
        · subst hqj
          rw [hly] at hz
          cases hz
          exact h
        · exact hclj q z (by omega) hz
      by_cases h1 : y.ring = x.ring
      · by_cases h2 : y.seq = x.seq ∧ y.rep = x.rep
        · by_cases h3 : y.ring = x.ring ∧ y.seq = x.seq ∧ y.rep = x.rep ∧ y.members = x.members
          · repeat'(first|(apply CW.reg_heldC)|refine kv' ?_|apply jJ|refine jE' ?_|refine jp' ?_|(apply jc;kernel_rfl)|refine kg' ?_|refine kG' ?_|refine kB' fun _=>?_|refine kA' fun _=>?_|refine kK' fun _=>?_|refine kU' ?_|((first|refine kR' ?_ ?_|refine kQ' ?_ ?_);all_goals(intro hc;try simp only[hcs]at hc;try(exfalso;first|contradiction|omega))))
            all_goals (
              apply DW.quiet [0, 1, 2, 3, 4, 5, 6, 7, 8, 9, 10, 11, 12, 13, 14, 15, 16, 17, 18, 19, 20, 21, 22, 23, 24, 25, 26, 27, 28, 29, 30, 31, 32, 33, 34]
              · decide +kernel
              · first | exact fun _ h => h | exact fun _ h => St.sub h subZ
              repeat'(first|(apply QL.ev; (· exact rfl); (· apply Ev.indexAddr; (· exact rfl); (· exact rfl); (· omega); (· omega)); (· exact rfl))|(apply QL.evg; (iterate 3 exact rfl); (· apply Ev.indexAddr; (· exact rfl); (· exact rfl); (· omega); (· omega)); (· exact rfl))|(apply QL.ev; (· exact rfl); (· apply Ev.load (v := .int .i64 y.ring); (· exact rfl); (· intro w' hw'; refine pcs_one (hw'.rd_of memZ) hly 0 rfl ?_; (· omega))); (· exact rfl))|(apply QL.ev; (· exact rfl); (· apply Ev.load (v := .int .i64 x.ring); (· exact rfl); (· intro w' hw'; refine pcs_one (hw'.rd_of memZ) hlx 0 rfl ?_; (· omega))); (· exact rfl))|(apply QL.ev; (· exact rfl); (· first | (apply Ev.eqlT; (· exact rfl); (· exact rfl); (· first | assumption | omega)) | (apply Ev.eqlF; (· exact rfl); (· exact rfl); (· first | assumption | omega))); (· exact rfl))|(apply QL.evg; (iterate 3 exact rfl); (· first | (apply Ev.eqlT; (· exact rfl); (· exact rfl); (· first | assumption | omega)) | (apply Ev.eqlF; (· exact rfl); (· exact rfl); (· first | assumption | omega))); (· exact rfl))|(apply QL.evg; (iterate 3 exact rfl); (· apply Ev.load_agg_at (cs := [Value.int .i64 y.seq, .int .i64 y.rep]); (· exact rfl); (· exact rfl); (· intro w' hw' j v hj; refine pcs_two (hw'.rd_of memZ) hly hj ?_; (· omega))); (· exact rfl))|(apply QL.evg; (iterate 3 exact rfl); (· apply Ev.load_agg_at (cs := [Value.int .i64 x.seq, .int .i64 x.rep]); (· exact rfl); (· exact rfl); (· intro w' hw' j v hj; refine pcs_two (hw'.rd_of memZ) hlx hj ?_; (· omega))); (· exact rfl))|(apply QL.evg; (iterate 3 exact rfl); (· first | (apply Ev.eq2T; (· exact rfl); (· exact rfl); (· assumption)) | (apply Ev.eq2F; (· exact rfl); (· exact rfl); (· assumption))); (· exact rfl))|(apply QL.evg; (iterate 3 exact rfl); (· apply Ev.load_agg_at (cs := [Value.int .i64 y.ring, .int .i64 y.seq, .int .i64 y.rep, .int .i64 y.members]); (· exact rfl); (· exact rfl); (· intro w' hw'; refine pcs_cell (x := y) (hw'.rd_of memZ) hly ?_; (· omega))); (· exact rfl))|(apply QL.evg; (iterate 3 exact rfl); (· apply Ev.load_agg_at (cs := [Value.int .i64 x.ring, .int .i64 x.seq, .int .i64 x.rep, .int .i64 x.members]); (· exact rfl); (· exact rfl); (· intro w' hw'; refine pcs_cell (x := x) (hw'.rd_of memZ) hlx ?_; (· omega))); (· exact rfl))|(apply QL.evg; (iterate 3 exact rfl); (· first | (apply Ev.ne4F; (· exact rfl); (· exact rfl); (· assumption)) | (apply Ev.ne4T; (· exact rfl); (· exact rfl); (· assumption))); (· exact rfl))|refine yv' ?_|refine uv' ?_|refine un' ?_|(refine us' ?_ ?_;all_goals(intro hc;try simp only[hcs]at hc;try(exfalso;first|contradiction|omega)))|apply QL.nil)
              all_goals (show DW _ _ _ _ _ _ _ _))
            all_goals (first | (apply DW.done_thn; (· decide +kernel)) | (apply DW.done; (· decide +kernel)))
            repeat'(first|refine kv' ?_|apply jJ|refine jE' ?_|refine jp' ?_|(apply jc;kernel_rfl)|refine kg' ?_|refine kG' ?_|refine kB' fun _=>?_|refine kA' fun _=>?_|refine kK' fun _=>?_|refine kU' ?_|(apply addX;(iterate 2 exact rfl);(iterate 2(first|omega|(dsimp only;omega)));exact rfl)|((first|refine kR' ?_ ?_|refine kQ' ?_ ?_);all_goals(intro hc;try simp only[hcs]at hc;try(exfalso;first|contradiction|omega))))
            refine At.again (j + 1) ⟨by omega, hgo (fun h => h.2.2 h3)⟩ ?_ ⟨rfl, trivial⟩ (fun w' hw' => hw') (by omega)
            (repeat (first | exact Out.refl _ _ | exact Out.mix | (apply Out.upd; (· exact rfl)) | (apply Out.updL; (· exact rfl)) | (apply Out.mixs; (· exact rfl))))
          · repeat'(first|(apply CW.reg_heldC)|refine kv' ?_|apply jJ|refine jE' ?_|refine jp' ?_|(apply jc;kernel_rfl)|refine kg' ?_|refine kG' ?_|refine kB' fun _=>?_|refine kA' fun _=>?_|refine kK' fun _=>?_|refine kU' ?_|((first|refine kR' ?_ ?_|refine kQ' ?_ ?_);all_goals(intro hc;try simp only[hcs]at hc;try(exfalso;first|contradiction|omega))))
            all_goals (
              apply DW.quiet [0, 1, 2, 3, 4, 5, 6, 7, 8, 9, 10, 11, 12, 13, 14, 15, 16, 17, 18, 19, 20, 21, 22, 23, 24, 25, 26, 27, 28, 29, 30, 31, 32, 33, 34]
              · decide +kernel
              · first | exact fun _ h => h | exact fun _ h => St.sub h subZ
              repeat'(first|(apply QL.ev; (· exact rfl); (· apply Ev.indexAddr; (· exact rfl); (· exact rfl); (· omega); (· omega)); (· exact rfl))|(apply QL.evg; (iterate 3 exact rfl); (· apply Ev.indexAddr; (· exact rfl); (· exact rfl); (· omega); (· omega)); (· exact rfl))|(apply QL.ev; (· exact rfl); (· apply Ev.load (v := .int .i64 y.ring); (· exact rfl); (· intro w' hw'; refine pcs_one (hw'.rd_of memZ) hly 0 rfl ?_; (· omega))); (· exact rfl))|(apply QL.ev; (· exact rfl); (· apply Ev.load (v := .int .i64 x.ring); (· exact rfl); (· intro w' hw'; refine pcs_one (hw'.rd_of memZ) hlx 0 rfl ?_; (· omega))); (· exact rfl))|(apply QL.ev; (· exact rfl); (· first | (apply Ev.eqlT; (· exact rfl); (· exact rfl); (· first | assumption | omega)) | (apply Ev.eqlF; (· exact rfl); (· exact rfl); (· first | assumption | omega))); (· exact rfl))|(apply QL.evg; (iterate 3 exact rfl); (· first | (apply Ev.eqlT; (· exact rfl); (· exact rfl); (· first | assumption | omega)) | (apply Ev.eqlF; (· exact rfl); (· exact rfl); (· first | assumption | omega))); (· exact rfl))|(apply QL.evg; (iterate 3 exact rfl); (· apply Ev.load_agg_at (cs := [Value.int .i64 y.seq, .int .i64 y.rep]); (· exact rfl); (· exact rfl); (· intro w' hw' j v hj; refine pcs_two (hw'.rd_of memZ) hly hj ?_; (· omega))); (· exact rfl))|(apply QL.evg; (iterate 3 exact rfl); (· apply Ev.load_agg_at (cs := [Value.int .i64 x.seq, .int .i64 x.rep]); (· exact rfl); (· exact rfl); (· intro w' hw' j v hj; refine pcs_two (hw'.rd_of memZ) hlx hj ?_; (· omega))); (· exact rfl))|(apply QL.evg; (iterate 3 exact rfl); (· first | (apply Ev.eq2T; (· exact rfl); (· exact rfl); (· assumption)) | (apply Ev.eq2F; (· exact rfl); (· exact rfl); (· assumption))); (· exact rfl))|(apply QL.evg; (iterate 3 exact rfl); (· apply Ev.load_agg_at (cs := [Value.int .i64 y.ring, .int .i64 y.seq, .int .i64 y.rep, .int .i64 y.members]); (· exact rfl); (· exact rfl); (· intro w' hw'; refine pcs_cell (x := y) (hw'.rd_of memZ) hly ?_; (· omega))); (· exact rfl))|(apply QL.evg; (iterate 3 exact rfl); (· apply Ev.load_agg_at (cs := [Value.int .i64 x.ring, .int .i64 x.seq, .int .i64 x.rep, .int .i64 x.members]); (· exact rfl); (· exact rfl); (· intro w' hw'; refine pcs_cell (x := x) (hw'.rd_of memZ) hlx ?_; (· omega))); (· exact rfl))|(apply QL.evg; (iterate 3 exact rfl); (· first | (apply Ev.ne4F; (· exact rfl); (· exact rfl); (· assumption)) | (apply Ev.ne4T; (· exact rfl); (· exact rfl); (· assumption))); (· exact rfl))|refine yv' ?_|refine uv' ?_|refine un' ?_|(refine us' ?_ ?_;all_goals(intro hc;try simp only[hcs]at hc;try(exfalso;first|contradiction|omega)))|apply QL.nil)
              all_goals (show DW _ _ _ _ _ _ _ _))
            all_goals (first | (apply DW.done_thn; (· decide +kernel)) | (apply DW.done; (· decide +kernel)))
            repeat'(first|refine kv' ?_|apply jJ|refine jE' ?_|refine jp' ?_|(apply jc;kernel_rfl)|refine kg' ?_|refine kG' ?_|refine kB' fun _=>?_|refine kA' fun _=>?_|refine kK' fun _=>?_|refine kU' ?_|((first|refine kR' ?_ ?_|refine kQ' ?_ ?_);all_goals(intro hc;try simp only[hcs]at hc;try(exfalso;first|contradiction|omega))))
            (apply ret1; (· exact rfl); intro w' hS)
            exact ⟨rfl, hS.toKeep⟩
        · repeat'(first|(apply CW.reg_heldC)|refine kv' ?_|apply jJ|refine jE' ?_|refine jp' ?_|(apply jc;kernel_rfl)|refine kg' ?_|refine kG' ?_|refine kB' fun _=>?_|refine kA' fun _=>?_|refine kK' fun _=>?_|refine kU' ?_|((first|refine kR' ?_ ?_|refine kQ' ?_ ?_);all_goals(intro hc;try simp only[hcs]at hc;try(exfalso;first|contradiction|omega))))
          all_goals (
            apply DW.quiet [0, 1, 2, 3, 4, 5, 6, 7, 8, 9, 10, 11, 12, 13, 14, 15, 16, 17, 18, 19, 20, 21, 22, 23, 24, 25, 26, 27, 28, 29, 30, 31, 32, 33, 34]
            · decide +kernel
            · first | exact fun _ h => h | exact fun _ h => St.sub h subZ
            repeat'(first|(apply QL.ev; (· exact rfl); (· apply Ev.indexAddr; (· exact rfl); (· exact rfl); (· omega); (· omega)); (· exact rfl))|(apply QL.evg; (iterate 3 exact rfl); (· apply Ev.indexAddr; (· exact rfl); (· exact rfl); (· omega); (· omega)); (· exact rfl))|(apply QL.ev; (· exact rfl); (· apply Ev.load (v := .int .i64 y.ring); (· exact rfl); (· intro w' hw'; refine pcs_one (hw'.rd_of memZ) hly 0 rfl ?_; (· omega))); (· exact rfl))|(apply QL.ev; (· exact rfl); (· apply Ev.load (v := .int .i64 x.ring); (· exact rfl); (· intro w' hw'; refine pcs_one (hw'.rd_of memZ) hlx 0 rfl ?_; (· omega))); (· exact rfl))|(apply QL.ev; (· exact rfl); (· first | (apply Ev.eqlT; (· exact rfl); (· exact rfl); (· first | assumption | omega)) | (apply Ev.eqlF; (· exact rfl); (· exact rfl); (· first | assumption | omega))); (· exact rfl))|(apply QL.evg; (iterate 3 exact rfl); (· first | (apply Ev.eqlT; (· exact rfl); (· exact rfl); (· first | assumption | omega)) | (apply Ev.eqlF; (· exact rfl); (· exact rfl); (· first | assumption | omega))); (· exact rfl))|(apply QL.evg; (iterate 3 exact rfl); (· apply Ev.load_agg_at (cs := [Value.int .i64 y.seq, .int .i64 y.rep]); (· exact rfl); (· exact rfl); (· intro w' hw' j v hj; refine pcs_two (hw'.rd_of memZ) hly hj ?_; (· omega))); (· exact rfl))|(apply QL.evg; (iterate 3 exact rfl); (· apply Ev.load_agg_at (cs := [Value.int .i64 x.seq, .int .i64 x.rep]); (· exact rfl); (· exact rfl); (· intro w' hw' j v hj; refine pcs_two (hw'.rd_of memZ) hlx hj ?_; (· omega))); (· exact rfl))|(apply QL.evg; (iterate 3 exact rfl); (· first | (apply Ev.eq2T; (· exact rfl); (· exact rfl); (· assumption)) | (apply Ev.eq2F; (· exact rfl); (· exact rfl); (· assumption))); (· exact rfl))|(apply QL.evg; (iterate 3 exact rfl); (· apply Ev.load_agg_at (cs := [Value.int .i64 y.ring, .int .i64 y.seq, .int .i64 y.rep, .int .i64 y.members]); (· exact rfl); (· exact rfl); (· intro w' hw'; refine pcs_cell (x := y) (hw'.rd_of memZ) hly ?_; (· omega))); (· exact rfl))|(apply QL.evg; (iterate 3 exact rfl); (· apply Ev.load_agg_at (cs := [Value.int .i64 x.ring, .int .i64 x.seq, .int .i64 x.rep, .int .i64 x.members]); (· exact rfl); (· exact rfl); (· intro w' hw'; refine pcs_cell (x := x) (hw'.rd_of memZ) hlx ?_; (· omega))); (· exact rfl))|(apply QL.evg; (iterate 3 exact rfl); (· first | (apply Ev.ne4F; (· exact rfl); (· exact rfl); (· assumption)) | (apply Ev.ne4T; (· exact rfl); (· exact rfl); (· assumption))); (· exact rfl))|refine yv' ?_|refine uv' ?_|refine un' ?_|(refine us' ?_ ?_;all_goals(intro hc;try simp only[hcs]at hc;try(exfalso;first|contradiction|omega)))|apply QL.nil)
            all_goals (show DW _ _ _ _ _ _ _ _))
          all_goals (first | (apply DW.done_thn; (· decide +kernel)) | (apply DW.done; (· decide +kernel)))
          repeat'(first|refine kv' ?_|apply jJ|refine jE' ?_|refine jp' ?_|(apply jc;kernel_rfl)|refine kg' ?_|refine kG' ?_|refine kB' fun _=>?_|refine kA' fun _=>?_|refine kK' fun _=>?_|refine kU' ?_|(apply addX;(iterate 2 exact rfl);(iterate 2(first|omega|(dsimp only;omega)));exact rfl)|((first|refine kR' ?_ ?_|refine kQ' ?_ ?_);all_goals(intro hc;try simp only[hcs]at hc;try(exfalso;first|contradiction|omega))))
          refine At.again (j + 1) ⟨by omega, hgo (fun h => h2 h.2.1)⟩ ?_ ⟨rfl, trivial⟩ (fun w' hw' => hw') (by omega)
          (repeat (first | exact Out.refl _ _ | exact Out.mix | (apply Out.upd; (· exact rfl)) | (apply Out.updL; (· exact rfl)) | (apply Out.mixs; (· exact rfl))))
      · repeat'(first|(apply CW.reg_heldC)|refine kv' ?_|apply jJ|refine jE' ?_|refine jp' ?_|(apply jc;kernel_rfl)|refine kg' ?_|refine kG' ?_|refine kB' fun _=>?_|refine kA' fun _=>?_|refine kK' fun _=>?_|refine kU' ?_|((first|refine kR' ?_ ?_|refine kQ' ?_ ?_);all_goals(intro hc;try simp only[hcs]at hc;try(exfalso;first|contradiction|omega))))
        all_goals (
          apply DW.quiet [0, 1, 2, 3, 4, 5, 6, 7, 8, 9, 10, 11, 12, 13, 14, 15, 16, 17, 18, 19, 20, 21, 22, 23, 24, 25, 26, 27, 28, 29, 30, 31, 32, 33, 34]
          · decide +kernel
          · first | exact fun _ h => h | exact fun _ h => St.sub h subZ
          repeat'(first|(apply QL.ev; (· exact rfl); (· apply Ev.indexAddr; (· exact rfl); (· exact rfl); (· omega); (· omega)); (· exact rfl))|(apply QL.evg; (iterate 3 exact rfl); (· apply Ev.indexAddr; (· exact rfl); (· exact rfl); (· omega); (· omega)); (· exact rfl))|(apply QL.ev; (· exact rfl); (· apply Ev.load (v := .int .i64 y.ring); (· exact rfl); (· intro w' hw'; refine pcs_one (hw'.rd_of memZ) hly 0 rfl ?_; (· omega))); (· exact rfl))|(apply QL.ev; (· exact rfl); (· apply Ev.load (v := .int .i64 x.ring); (· exact rfl); (· intro w' hw'; refine pcs_one (hw'.rd_of memZ) hlx 0 rfl ?_; (· omega))); (· exact rfl))|(apply QL.ev; (· exact rfl); (· first | (apply Ev.eqlT; (· exact rfl); (· exact rfl); (· first | assumption | omega)) | (apply Ev.eqlF; (· exact rfl); (· exact rfl); (· first | assumption | omega))); (· exact rfl))|(apply QL.evg; (iterate 3 exact rfl); (· first | (apply Ev.eqlT; (· exact rfl); (· exact rfl); (· first | assumption | omega)) | (apply Ev.eqlF; (· exact rfl); (· exact rfl); (· first | assumption | omega))); (· exact rfl))|(apply QL.evg; (iterate 3 exact rfl); (· apply Ev.load_agg_at (cs := [Value.int .i64 y.seq, .int .i64 y.rep]); (· exact rfl); (· exact rfl); (· intro w' hw' j v hj; refine pcs_two (hw'.rd_of memZ) hly hj ?_; (· omega))); (· exact rfl))|(apply QL.evg; (iterate 3 exact rfl); (· apply Ev.load_agg_at (cs := [Value.int .i64 x.seq, .int .i64 x.rep]); (· exact rfl); (· exact rfl); (· intro w' hw' j v hj; refine pcs_two (hw'.rd_of memZ) hlx hj ?_; (· omega))); (· exact rfl))|(apply QL.evg; (iterate 3 exact rfl); (· first | (apply Ev.eq2T; (· exact rfl); (· exact rfl); (· assumption)) | (apply Ev.eq2F; (· exact rfl); (· exact rfl); (· assumption))); (· exact rfl))|(apply QL.evg; (iterate 3 exact rfl); (· apply Ev.load_agg_at (cs := [Value.int .i64 y.ring, .int .i64 y.seq, .int .i64 y.rep, .int .i64 y.members]); (· exact rfl); (· exact rfl); (· intro w' hw'; refine pcs_cell (x := y) (hw'.rd_of memZ) hly ?_; (· omega))); (· exact rfl))|(apply QL.evg; (iterate 3 exact rfl); (· apply Ev.load_agg_at (cs := [Value.int .i64 x.ring, .int .i64 x.seq, .int .i64 x.rep, .int .i64 x.members]); (· exact rfl); (· exact rfl); (· intro w' hw'; refine pcs_cell (x := x) (hw'.rd_of memZ) hlx ?_; (· omega))); (· exact rfl))|(apply QL.evg; (iterate 3 exact rfl); (· first | (apply Ev.ne4F; (· exact rfl); (· exact rfl); (· assumption)) | (apply Ev.ne4T; (· exact rfl); (· exact rfl); (· assumption))); (· exact rfl))|refine yv' ?_|refine uv' ?_|refine un' ?_|(refine us' ?_ ?_;all_goals(intro hc;try simp only[hcs]at hc;try(exfalso;first|contradiction|omega)))|apply QL.nil)
          all_goals (show DW _ _ _ _ _ _ _ _))
        all_goals (first | (apply DW.done_thn; (· decide +kernel)) | (apply DW.done; (· decide +kernel)))
        repeat'(first|refine kv' ?_|apply jJ|refine jE' ?_|refine jp' ?_|(apply jc;kernel_rfl)|refine kg' ?_|refine kG' ?_|refine kB' fun _=>?_|refine kA' fun _=>?_|refine kK' fun _=>?_|refine kU' ?_|(apply addX;(iterate 2 exact rfl);(iterate 2(first|omega|(dsimp only;omega)));exact rfl)|((first|refine kR' ?_ ?_|refine kQ' ?_ ?_);all_goals(intro hc;try simp only[hcs]at hc;try(exfalso;first|contradiction|omega))))
        refine At.again (j + 1) ⟨by omega, hgo (fun h => h1 h.1)⟩ ?_ ⟨rfl, trivial⟩ (fun w' hw' => hw') (by omega)
        (repeat (first | exact Out.refl _ _ | exact Out.mix | (apply Out.upd; (· exact rfl)) | (apply Out.updL; (· exact rfl)) | (apply Out.mixs; (· exact rfl))))
    · have hje : j = i := by omega
      subst hje
      repeat'(first|refine kv' ?_|apply jJ|refine jE' ?_|refine jp' ?_|(apply jc;kernel_rfl)|refine kg' ?_|refine kG' ?_|refine kB' fun _=>?_|refine kA' fun _=>?_|refine kK' fun _=>?_|refine kU' ?_|(apply addX;(iterate 2 exact rfl);(iterate 2(first|omega|(dsimp only;omega)));exact rfl)|((first|refine kR' ?_ ?_|refine kQ' ?_ ?_);all_goals(intro hc;try simp only[hcs]at hc;try(exfalso;first|contradiction|omega))))
      refine At.again (j + 1) ⟨by omega, fun p q z y hqp hp hz hy => ?_⟩ ?_ ⟨rfl, trivial⟩ (fun w' hw' => hw') (by omega)
      · by_cases hpj : p = j
        · subst hpj
          rw [hlx] at hz
          cases hz
          exact hclj q y hqp hy
        · exact hcl p q z y hqp (by omega) hz hy
      · (repeat (first | exact Out.refl _ _ | exact Out.mix | (apply Out.upd; (· exact rfl)) | (apply Out.updL; (· exact rfl)) | (apply Out.mixs; (· exact rfl))))
  have hie : i = l.length := by omega
  subst hie
  have hnc : NoClash l := by
    intro x hx y hy h1 h2 h3
    obtain ⟨p, hp, rfl⟩ := List.getElem_of_mem hx
    obtain ⟨q, hq, rfl⟩ := List.getElem_of_mem hy
    have hP : ∀ u v : Plc, u.ring = v.ring → u.seq = v.seq → u.rep = v.rep → ¬ clash u v → u = v := by
      intro u v e1 e2 e3 hn
      have h4 : u.members = v.members := Classical.byContradiction fun e4 => hn ⟨e1, ⟨e2, e3⟩, fun h => e4 h.2.2.2⟩
      cases u; cases v; simp_all
    rcases Nat.lt_trichotomy p q with h | h | h
    · exact hP _ _ h1 h2 h3 (hcl q p _ _ h hq (List.getElem?_eq_getElem hq) (List.getElem?_eq_getElem hp))
    · subst h; rfl
    · exact (hP _ _ h1.symm h2.symm h3.symm (hcl p q _ _ h hp (List.getElem?_eq_getElem hp) (List.getElem?_eq_getElem hq))).symm
  clear hcl
  repeat'(first|refine kv' ?_|apply jJ|refine jE' ?_|refine jp' ?_|(apply jc;kernel_rfl)|refine kg' ?_|refine kG' ?_|refine kB' fun _=>?_|refine kA' fun _=>?_|refine kK' fun _=>?_|refine kU' ?_|((first|refine kR' ?_ ?_|refine kQ' ?_ ?_);all_goals(intro hc;try simp only[hcs]at hc;try(exfalso;first|contradiction|omega))))
  apply CW.loop [7, 8, 9, 65, 66, 67, 68, 69, 70, 71, 72, 73, 74, 75, 76, 77, 78, 79, 80, 81, 82, 83, 84, 85, 86] (fun s : Cs2 => s.k ≤ l.length) (fun s => [(9, .int .i64 (s.k : Int)), (7, .slice s.a (lrnAll (l.take s.k)).length s.c), (8, .slice s.a2 (lrnAll (l.reverse.take s.k)).length s.c2)])
    (fun s => St w NoF [pN s.a2 (lrnAll (l.reverse.take s.k)).length s.c2 (lrnAll (l.reverse.take s.k)), pN s.a (lrnAll (l.take s.k)).length s.c (lrnAll (l.take s.k)), rdA a (pcs l)]) (fun s => l.length - s.k)
  · exact fun w' hw' => ⟨⟨0, none, 0, none, 0⟩, Nat.zero_le _, ⟨rfl, rfl, rfl, trivial⟩, (hw'.nilsl 44 4).nilsl 44 4⟩
  rintro ⟨i, a7, c7, a8, c8⟩ g hi4
  simp only at hi4 ⊢
  by_cases hlt : i < l.length
  · have hA := lrnAll_take hlt
    have hB := lrnAll_take (l := l.reverse) (i := i) (by rw [List.length_reverse]; exact hlt)
    have hAl := lrnAll_len (l.take i)
    have hBl := lrnAll_len (l.reverse.take i)
    rw [List.getElem_reverse] at hB
    obtain ⟨ba, oa, rfl⟩ := hk.form (fun e => by have h1 := congrArg List.length e; rw [pcs_length, List.length_nil] at h1; omega)
    obtain ⟨x, hx⟩ : ∃ x, l[i] = x := ⟨_, rfl⟩
    obtain ⟨z, hz⟩ : ∃ z, l[l.length - 1 - i] = z := ⟨_, rfl⟩
    have hlx : l[i]? = some x := by rw [List.getElem?_eq_getElem hlt, hx]
    have hlz : l[l.length - 1 - i]? = some z := by rw [List.getElem?_eq_getElem (by omega), hz]
    rw [hx] at hA
    rw [hz] at hB
    have hxm : i64P x.members := (hl x (hx ▸ List.getElem_mem hlt)).2.2.2
    have hzm : i64P z.members := (hl z (hz ▸ List.getElem_mem (by omega))).2.2.2
    generalize lrnAll (l.take i) = A at hA hAl ⊢
    generalize lrnAll (l.reverse.take i) = B at hB hBl ⊢
    repeat'(first|(apply LR.ev; (· apply Ev.load_agg_at (cs := [Value.int .i64 x.ring, .int .i64 x.seq, .int .i64 x.rep, .int .i64 x.members]); (· exact rfl); (· exact rfl); (· intro w' hw'; refine pcs_cell (x := x) (hw'.rd_of memZ) hlx ?_; (· omega))); (· exact rfl))|(apply LR.ev; (· apply Ev.load_agg_at (cs := [Value.int .i64 z.ring, .int .i64 z.seq, .int .i64 z.rep, .int .i64 z.members]); (· exact rfl); (· exact rfl); (· intro w' hw'; refine pcs_cell (x := z) (hw'.rd_of memZ) hlz ?_; (· omega))); (· exact rfl))|refine kv' ?_|apply jJ|refine jE' ?_|refine jp' ?_|(apply jc;kernel_rfl)|refine kg' ?_|refine kG' ?_|refine kB' fun _=>?_|refine kA' fun _=>?_|refine kK' fun _=>?_|refine kU' ?_|(apply idxX;(iterate 2 exact rfl);(iterate 2(first|omega|(dsimp only;omega)));exact rfl)|(apply addX;(iterate 2 exact rfl);(iterate 2(first|omega|(dsimp only;omega)));exact rfl)|(apply subX;(iterate 2 exact rfl);(iterate 2(first|omega|(dsimp only;omega)));exact rfl)|(apply LR.call; (· exact rfl); (intro w1 h1; first | (have hown := h1.holds (pN a7 A.length c7 A) memZ; refine CallsTo.mono (show CallsTo Try.prog 27 [.slice a7 A.length c7, x.val] w1 _ from m27 sort_few A a7 c7 x w1 (ownsRow_rd hown) (fun e => (ownsRow_some hown e).2) (by omega) (by omega) hxm) ?_; rintro v w2 ⟨a9, c9, rfl, hn⟩; refine LR.back (h1.newSl hn) ?_; clear hn h1 hown) | (have hown := h1.holds (pN a8 B.length c8 B) memZ; refine CallsTo.mono (show CallsTo Try.prog 27 [.slice a8 B.length c8, z.val] w1 _ from m27 sort_few B a8 c8 z w1 (ownsRow_rd hown) (fun e => (ownsRow_some hown e).2) (by omega) (by omega) hzm) ?_; rintro v w2 ⟨a10, c10, rfl, hn⟩; refine LR.back (h1.newSl hn) ?_; clear hn h1 hown)))|((first|refine kR' ?_ ?_|refine kQ' ?_ ?_);all_goals(intro hc;try simp only[hcs]at hc;try(exfalso;first|contradiction|omega))))
    refine At.again (⟨i + 1, a9, c9, a10, c10⟩ : Cs2) (by simp only; omega) ?_ ⟨rfl, ?_, ?_, trivial⟩ ?_ (by simp only; omega)
    · (repeat (first | exact Out.refl _ _ | exact Out.mix | (apply Out.upd; (· exact rfl)) | (apply Out.updL; (· exact rfl)) | (apply Out.mixs; (· exact rfl))))
    · simp only
      rw [hA]
      rfl
    · simp only
      rw [hB]
      rfl
    · intro w' hw'
      simp only
      rw [hA, hB]
      exact hw'.sub subZ
  have hie : i = l.length := by omega
  subst hie
  have hrv : lrnAll (l.reverse.take l.length) = lrnAll l := by
    rw [show l.reverse.take l.length = l.reverse by rw [← List.length_reverse, List.take_length]]
    exact lrnAll_rev hnc
  rw [hrv, List.take_length]
  have hAl := lrnAll_len l
  have hKn := lrnAll_ok l
  generalize lrnAll l = A at hAl hKn ⊢
  refine CW_fact (φ := a7 = none → c7 = 0) (fun w' hw' e => (ownsRow_some (hw'.holds (pN a7 A.length c7 A) memZ) e).2) fun hz7 => ?_
  repeat'(first|refine kv' ?_|apply jJ|refine jE' ?_|refine jp' ?_|(apply jc;kernel_rfl)|refine kg' ?_|refine kG' ?_|refine kB' fun _=>?_|refine kA' fun _=>?_|refine kK' fun _=>?_|refine kU' ?_|(apply kq; (· exact rfl); (· intro w1 h1; exact CallsTo.q (show CallsTo Try.prog 25 [.slice a7 A.length c7, .slice a8 A.length c8] w1 _ from x25 a7 a8 c7 c8 A w1 (h1.rd_of_own memZ) (h1.rd_of_own memZ) (by omega)) h1))|((first|refine kR' ?_ ?_|refine kQ' ?_ ?_);all_goals(intro hc;try simp only[hcs]at hc;try(exfalso;first|contradiction|omega))))
  apply CW.loop [10, 11, 92, 93, 94, 95, 96, 97, 98, 99, 100, 101, 102, 103, 104, 105, 106, 107, 108, 109, 110, 111] (fun s : Cst => s.k ≤ l.length ∧ (s.a = none → s.c = 0)) (fun s => [(11, .int .i64 (s.k : Int)), (10, .slice s.a A.length s.c)])
    (fun s => St w NoF [rdA s.a (pcs A), rdA a7 (pcs A), rdA a (pcs l)]) (fun s => l.length - s.k)
  · exact fun w' hw' => ⟨⟨0, a7, c7⟩, ⟨Nat.zero_le _, hz7⟩, ⟨rfl, rfl, trivial⟩, St.twice (St.soft (hw'.sub subZ))⟩
  rintro ⟨i, a10, c10⟩ g ⟨hi6, hz10⟩
  simp only at hi6 hz10 ⊢
  by_cases hlt : i < l.length
  · have hbr := bring_rng (a := fr) (n := (l.length : Int)) (by omega)
    obtain ⟨q, hq, hqn⟩ : ∃ q : Nat, ((i : Int) + bringI fr (l.length : Int)).tmod (l.length : Int) = (q : Int) ∧ q < l.length := by
      have h1 := Int.tmod_lt_of_pos ((i : Int) + bringI fr (l.length : Int)) (b := (l.length : Int)) (by omega)
      have h2 := Int.tmod_nonneg (a := (i : Int) + bringI fr (l.length : Int)) (l.length : Int) (by omega)
      exact ⟨(((i : Int) + bringI fr (l.length : Int)).tmod (l.length : Int)).toNat, by omega, by omega⟩
    obtain ⟨ba, oa, rfl⟩ := hk.form (fun e => by have h1 := congrArg List.length e; rw [pcs_length, List.length_nil] at h1; omega)
    obtain ⟨x, hx⟩ : ∃ x, l[q] = x := ⟨_, rfl⟩
    have hlx : l[q]? = some x := by rw [List.getElem?_eq_getElem hqn, hx]
    have hxl : x ∈ l := hx ▸ List.getElem_mem hqn
    have hxm : i64P x.members := (hl x hxl).2.2.2
    have hag := hKn.again hnc hxl
    repeat'(first|(apply LR.ev; (· apply Ev.remTo hq; (· exact rfl); (· exact rfl); (· omega)); (· exact rfl))|(apply LR.ev; (· apply Ev.load_agg_at (cs := [Value.int .i64 x.ring, .int .i64 x.seq, .int .i64 x.rep, .int .i64 x.members]); (· exact rfl); (· exact rfl); (· intro w' hw'; refine pcs_cell (x := x) (hw'.rd_of memZ) hlx ?_; (· omega))); (· exact rfl))|refine kv' ?_|apply jJ|refine jE' ?_|refine jp' ?_|(apply jc;kernel_rfl)|refine kg' ?_|refine kG' ?_|refine kB' fun _=>?_|refine kA' fun _=>?_|refine kK' fun _=>?_|refine kU' ?_|(apply idxX;(iterate 2 exact rfl);(iterate 2(first|omega|(dsimp only;omega)));exact rfl)|(apply addX;(iterate 2 exact rfl);(iterate 2(first|omega|(dsimp only;omega)));exact rfl)|(apply kq; (· exact rfl); (· intro w1 h1; exact CallsTo.q (m31 fr (l.length : Int) w1 (by omega)) h1))|(apply LR.call; (· exact rfl); (intro w1 h1; refine CallsTo.mono (show CallsTo Try.prog 27 [.slice a10 A.length c10, x.val] w1 _ from m27 sort_few A a10 c10 x w1 (h1.rd_of memZ) hz10 (by omega) (by omega) hxm) ?_; rintro v w2 ⟨a9, c9, rfl, hn⟩; rw [hag] at hn ⊢; have hz9 : a9 = none → c9 = 0 := fun e => (ownsRow_some hn.own e).2; refine LR.back (h1.newSl hn) ?_; clear hn h1))|((first|refine kR' ?_ ?_|refine kQ' ?_ ?_);all_goals(intro hc;try simp only[hcs]at hc;try(exfalso;first|contradiction|omega))))
    refine At.again (⟨i + 1, a9, c9⟩ : Cst) ⟨by simp only; omega, hz9⟩ ?_ ⟨rfl, rfl, trivial⟩ (fun w' hw' => (St.soft hw').sub subZ) (by simp only; omega)
    (repeat (first | exact Out.refl _ _ | exact Out.mix | (apply Out.upd; (· exact rfl)) | (apply Out.updL; (· exact rfl)) | (apply Out.mixs; (· exact rfl))))
  have hie : i = l.length := by omega
  subst hie
  repeat'(first|(apply LR.ev; (· first | (apply Ev.gtrF; (· exact rfl); (· exact rfl); (· first | assumption | omega)) | (apply Ev.gtrT; (· exact rfl); (· exact rfl); (· first | assumption | omega))); (· exact rfl))|refine kv' ?_|apply jJ|refine jE' ?_|refine jp' ?_|(apply jc;kernel_rfl)|refine kg' ?_|refine kG' ?_|refine kB' fun _=>?_|refine kA' fun _=>?_|refine kK' fun _=>?_|refine kU' ?_|(apply kq; (· exact rfl); (· intro w1 h1; exact CallsTo.q (show CallsTo Try.prog 25 [.slice a7 A.length c7, .slice a10 A.length c10] w1 _ from x25 a7 a10 c7 c10 A w1 (h1.rd_of memZ) (h1.rd_of memZ) (by omega)) h1))|((first|refine kR' ?_ ?_|refine kQ' ?_ ?_);all_goals(intro hc;try simp only[hcs]at hc;try(exfalso;first|contradiction|omega))))
  apply CW.loop [4, 12, 13, 121, 122, 123, 124, 125, 126, 127, 128, 129, 130, 131, 132, 133, 134, 135, 136, 137, 138, 139, 140, 141, 142, 143, 144, 145, 146, 147, 148, 149, 150, 151, 152, 153, 154, 155, 156, 157, 158, 159, 160, 161, 162, 163, 164, 165, 166, 167, 168, 169, 170, 171, 172, 173, 174, 175, 176, 177, 178, 179, 180, 181, 182] (fun i : Nat => i ≤ A.length) (fun i : Nat => [(12, Value.int .i64 (i : Int))]) (fun _ => St w NoF [rdA a7 (pcs A), rdA a (pcs l)]) (fun i => A.length - i)
  · exact fun w' hw' => ⟨0, Nat.zero_le _, ⟨rfl, trivial⟩, hw'.sub subZ⟩
  intro i g hi8
  by_cases hlt : i < A.length
  rotate_left
  · repeat'(first|refine kv' ?_|apply jJ|refine jE' ?_|refine jp' ?_|(apply jc;kernel_rfl)|refine kg' ?_|refine kG' ?_|refine kB' fun _=>?_|refine kA' fun _=>?_|refine kK' fun _=>?_|refine kU' ?_|((first|refine kR' ?_ ?_|refine kQ' ?_ ?_);all_goals(intro hc;try simp only[hcs]at hc;try(exfalso;first|contradiction|omega))))
    (apply ret1; (· exact rfl); intro w' hS)
    exact ⟨rfl, hS.toKeep⟩
  refine CW_fact (φ := ∃ b o, a7 = some ⟨b, o, none⟩) (fun w' hw' => (hw'.rd_of (a := a7) (xs := pcs A) memZ).form (fun e => by have h1 := congrArg List.length e; rw [pcs_length, List.length_nil] at h1; omega)) fun hf => ?_
  obtain ⟨b7, o7, rfl⟩ := hf
  obtain ⟨x, hx⟩ : ∃ x, A[i] = x := ⟨_, rfl⟩
  have hlx : A[i]? = some x := by rw [List.getElem?_eq_getElem hlt, hx]
  have hxA : x ∈ A := hx ▸ List.getElem_mem hlt
  obtain ⟨z, hlz, hzx⟩ : ∃ z : Plc, (0 < i → A[i - 1]? = some z) ∧ (0 < i → ¬ x.ring ≤ z.ring) := by
    by_cases h0 : 0 < i
    · refine ⟨A[i - 1], fun _ => List.getElem?_eq_getElem (by omega), fun _ => ?_⟩
      have h2 := List.pairwise_iff_getElem.1 hKn.asc (i - 1) i (by simp; omega) (by simpa using hlt) (by omega)
      simp only [List.getElem_map, hx] at h2
      omega
    · exact ⟨x, fun h => (h0 h).elim, fun h => (h0 h).elim⟩
  repeat'(first|(apply CW.reg_heldC)|refine kv' ?_|apply jJ|refine jE' ?_|refine jp' ?_|(apply jc;kernel_rfl)|refine kg' ?_|refine kG' ?_|refine kB' fun _=>?_|refine kA' fun _=>?_|refine kK' fun _=>?_|refine kU' ?_|((first|refine kR' ?_ ?_|refine kQ' ?_ ?_);all_goals(intro hc;try simp only[hcs]at hc;try(exfalso;first|contradiction|omega))))
  all_goals (
    apply DW.quiet [0, 1, 2, 3, 4, 5, 6, 7, 8, 9, 10, 11, 12, 13, 14, 15]
    · decide +kernel
    · first | exact fun _ h => h | exact fun _ h => St.sub h subZ
    repeat'(first|(apply QL.ev; (· exact rfl); (· first | (apply Ev.gtrF; (· exact rfl); (· exact rfl); (· first | assumption | omega)) | (apply Ev.gtrT; (· exact rfl); (· exact rfl); (· first | assumption | omega))); (· exact rfl))|(apply QL.evg; (iterate 3 exact rfl); (· apply Ev.indexAddr; (· exact rfl); (· exact rfl); (· omega); (· omega)); (· exact rfl))|(apply QL.evg; (iterate 3 exact rfl); (· apply Ev.sub; (· exact rfl); (· exact rfl); (· omega); (· omega)); (· exact rfl))|(apply QL.evg; (iterate 3 exact rfl); (· apply Ev.load (v := .int .i64 x.ring); (· exact rfl); (· intro w' hw'; refine pcs_one (hw'.rd_of memZ) hlx 0 rfl ?_; (· omega))); (· exact rfl))|(apply QL.evg; (iterate 3 exact rfl); (· apply Ev.load (v := .int .i64 z.ring); (· exact rfl); (· intro w' hw'; refine pcs_one (hw'.rd_of memZ) (hlz (by omega)) 0 rfl ?_; (· omega))); (· exact rfl))|(apply QL.evg; (iterate 3 exact rfl); (· apply Ev.leqF; (· exact rfl); (· exact rfl); (· exact hzx (by omega))); (· exact rfl))|refine yv' ?_|refine uv' ?_|refine un' ?_|(refine us' ?_ ?_;all_goals(intro hc;try simp only[hcs]at hc;try(exfalso;first|contradiction|omega)))|apply QL.nil)
    all_goals (show DW _ _ _ _ _ _ _ _))
  all_goals (first | (apply DW.done_thn; (· decide +kernel)) | (apply DW.done; (· decide +kernel)))
  all_goals (
    repeat'(first|refine kv' ?_|apply jJ|refine jE' ?_|refine jp' ?_|(apply jc;kernel_rfl)|refine kg' ?_|refine kG' ?_|refine kB' fun _=>?_|refine kA' fun _=>?_|refine kK' fun _=>?_|refine kU' ?_|((first|refine kR' ?_ ?_|refine kQ' ?_ ?_);all_goals(intro hc;try simp only[hcs]at hc;try(exfalso;first|contradiction|omega))))
    apply CW.loop [4, 13, 143, 144, 145, 146, 147, 148, 149, 150, 151, 152, 153, 154, 155, 156, 157, 158, 159, 160, 161, 162, 163, 164, 165, 166, 167, 168, 169, 170, 171, 172, 173, 174, 175, 176, 177, 178, 179, 180, 181, 182] (fun j : Nat => j ≤ l.length) (fun j : Nat => [(13, Value.int .i64 (j : Int))]) (fun _ => St w NoF [rdA (some ⟨b7, o7, none⟩) (pcs A), rdA a (pcs l)]) (fun j => l.length - j)
    · exact fun w' hw' => ⟨0, Nat.zero_le _, ⟨rfl, trivial⟩, hw'.sub subZ⟩
    intro j g hj
    by_cases hjt : j < l.length
    · obtain ⟨ba, oa, rfl⟩ := hk.form (fun e => by have h1 := congrArg List.length e; rw [pcs_length, List.length_nil] at h1; omega)
      obtain ⟨u, hu⟩ : ∃ u, l[j] = u := ⟨_, rfl⟩
      have hlu : l[j]? = some u := by rw [List.getElem?_eq_getElem hjt, hu]
      have hul : u ∈ l := hu ▸ List.getElem_mem hjt
      have hum : i64P u.members := (hl u hul).2.2.2
      by_cases h1 : u.ring = x.ring
      · by_cases h2 : mayP u = true
        · have hgt : ¬ 0 < ringsM u.seq u.rep x.seq x.rep := by
            obtain ⟨y, hy, e, hle⟩ := hKn.top u hul h2
            have : y = x := hKn.one hy hxA (by omega)
            subst this
            omega
          have hln : lrnP [] u = [u] := by rw [lrn_nil, h2]; rfl
          repeat'(first|(apply CW.reg_heldC)|refine kv' ?_|apply jJ|refine jE' ?_|refine jp' ?_|(apply jc;kernel_rfl)|refine kg' ?_|refine kG' ?_|refine kB' fun _=>?_|refine kA' fun _=>?_|refine kK' fun _=>?_|refine kU' ?_|((first|refine kR' ?_ ?_|refine kQ' ?_ ?_);all_goals(intro hc;try simp only[hcs]at hc;try(exfalso;first|contradiction|omega))))
          all_goals (
            apply DW.quiet [0, 1, 2, 3, 4, 5, 6, 7, 8, 9, 10, 11, 12, 13, 14, 15]
            · decide +kernel
            · first | exact fun _ h => h | exact fun _ h => St.sub h subZ
            repeat'(first|(apply QL.ev; (· exact rfl); (· apply Ev.indexAddr; (· exact rfl); (· exact rfl); (· omega); (· omega)); (· exact rfl))|(apply QL.evg; (iterate 3 exact rfl); (· apply Ev.indexAddr; (· exact rfl); (· exact rfl); (· omega); (· omega)); (· exact rfl))|(apply QL.ev; (· exact rfl); (· apply Ev.load (v := .int .i64 u.ring); (· exact rfl); (· intro w' hw'; refine pcs_one (hw'.rd_of memZ) hlu 0 rfl ?_; (· omega))); (· exact rfl))|(apply QL.ev; (· exact rfl); (· apply Ev.load (v := .int .i64 x.ring); (· exact rfl); (· intro w' hw'; refine pcs_one (hw'.rd_of memZ) hlx 0 rfl ?_; (· omega))); (· exact rfl))|(apply QL.ev; (· exact rfl); (· first | (apply Ev.eqlT; (· exact rfl); (· exact rfl); (· first | assumption | omega | decide)) | (apply Ev.eqlF; (· exact rfl); (· exact rfl); (· first | assumption | omega | decide))); (· exact rfl))|(apply QL.evg; (iterate 3 exact rfl); (· first | (apply Ev.eqlT; (· exact rfl); (· exact rfl); (· first | assumption | omega | decide)) | (apply Ev.eqlF; (· exact rfl); (· exact rfl); (· first | assumption | omega | decide))); (· exact rfl))|(apply QL.evg; (iterate 3 exact rfl); (· apply Ev.load_agg_at (cs := [Value.int .i64 u.ring, .int .i64 u.seq, .int .i64 u.rep, .int .i64 u.members]); (· exact rfl); (· exact rfl); (· intro w' hw'; refine pcs_cell (x := u) (hw'.rd_of memZ) hlu ?_; (· omega))); (· exact rfl))|(apply QL.evg; (iterate 3 exact rfl); (· apply Ev.load_agg_at (cs := [Value.int .i64 u.seq, .int .i64 u.rep]); (· exact rfl); (· exact rfl); (· intro w' hw' j v hj; refine pcs_two (hw'.rd_of memZ) hlu hj ?_; (· omega))); (· exact rfl))|(apply QL.evg; (iterate 3 exact rfl); (· apply Ev.load_agg_at (cs := [Value.int .i64 x.seq, .int .i64 x.rep]); (· exact rfl); (· exact rfl); (· intro w' hw' j v hj; refine pcs_two (hw'.rd_of memZ) hlx hj ?_; (· omega))); (· exact rfl))|(apply QL.evg; (iterate 3 exact rfl); (· first | (apply Ev.gtrF; (· exact rfl); (· exact rfl); (· first | assumption | omega)) | (apply Ev.gtrT; (· exact rfl); (· exact rfl); (· first | assumption | omega))); (· exact rfl))|refine yv' ?_|refine uv' ?_|refine un' ?_|(refine us' ?_ ?_;all_goals(intro hc;try simp only[hcs]at hc;try(exfalso;first|contradiction|omega)))|apply QL.nil)
            all_goals (show DW _ _ _ _ _ _ _ _))
          all_goals (
            apply DW.loud 16
            · exact rfl
            · decide +kernel
            repeat'(first|refine kg' ?_|refine kG' ?_|apply kM|refine kv' ?_|refine kK' fun _=>?_|refine kU' ?_|refine kB' fun _=>?_|refine kA' fun _=>?_|(apply kq; (· exact rfl); (· intro w1 h1; exact CallsTo.q (m32 u.seq u.rep x.seq x.rep w1) h1))|(apply LR.call; (· exact rfl); (intro w1 h1; refine CallsTo.mono (show CallsTo Try.prog 27 [.slice none 0 0, u.val] w1 _ from m27 sort_few [] none 0 u w1 (Rd.nil _ _) (fun _ => rfl) (by decide) (by decide) hum) ?_; rintro v w2 ⟨a9, c9, rfl, hn⟩; rw [hln] at hn ⊢; refine LR.back (h1.newSl hn) ?_; clear hn h1)))
            all_goals (refine At.stage_same (fun _ h => St.sub h subZ) ?_))
          all_goals (
            apply DW.quiet [17, 18, 19, 20, 21, 22, 23, 24, 25, 26, 27, 28, 29, 30]
            · decide +kernel
            · first | exact fun _ h => h | exact fun _ h => St.sub h subZ
            repeat'(first|(apply QL.ev; (· exact rfl); (· apply Ev.indexAddr; (· exact rfl); (· exact rfl); (· omega); (· omega)); (· exact rfl))|(apply QL.evg; (iterate 3 exact rfl); (· apply Ev.indexAddr; (· exact rfl); (· exact rfl); (· omega); (· omega)); (· exact rfl))|(apply QL.ev; (· exact rfl); (· apply Ev.load (v := .int .i64 u.ring); (· exact rfl); (· intro w' hw'; refine pcs_one (hw'.rd_of memZ) hlu 0 rfl ?_; (· omega))); (· exact rfl))|(apply QL.ev; (· exact rfl); (· apply Ev.load (v := .int .i64 x.ring); (· exact rfl); (· intro w' hw'; refine pcs_one (hw'.rd_of memZ) hlx 0 rfl ?_; (· omega))); (· exact rfl))|(apply QL.ev; (· exact rfl); (· first | (apply Ev.eqlT; (· exact rfl); (· exact rfl); (· first | assumption | omega | decide)) | (apply Ev.eqlF; (· exact rfl); (· exact rfl); (· first | assumption | omega | decide))); (· exact rfl))|(apply QL.evg; (iterate 3 exact rfl); (· first | (apply Ev.eqlT; (· exact rfl); (· exact rfl); (· first | assumption | omega | decide)) | (apply Ev.eqlF; (· exact rfl); (· exact rfl); (· first | assumption | omega | decide))); (· exact rfl))|(apply QL.evg; (iterate 3 exact rfl); (· apply Ev.load_agg_at (cs := [Value.int .i64 u.ring, .int .i64 u.seq, .int .i64 u.rep, .int .i64 u.members]); (· exact rfl); (· exact rfl); (· intro w' hw'; refine pcs_cell (x := u) (hw'.rd_of memZ) hlu ?_; (· omega))); (· exact rfl))|(apply QL.evg; (iterate 3 exact rfl); (· apply Ev.load_agg_at (cs := [Value.int .i64 u.seq, .int .i64 u.rep]); (· exact rfl); (· exact rfl); (· intro w' hw' j v hj; refine pcs_two (hw'.rd_of memZ) hlu hj ?_; (· omega))); (· exact rfl))|(apply QL.evg; (iterate 3 exact rfl); (· apply Ev.load_agg_at (cs := [Value.int .i64 x.seq, .int .i64 x.rep]); (· exact rfl); (· exact rfl); (· intro w' hw' j v hj; refine pcs_two (hw'.rd_of memZ) hlx hj ?_; (· omega))); (· exact rfl))|(apply QL.evg; (iterate 3 exact rfl); (· first | (apply Ev.gtrF; (· exact rfl); (· exact rfl); (· first | assumption | omega)) | (apply Ev.gtrT; (· exact rfl); (· exact rfl); (· first | assumption | omega))); (· exact rfl))|refine yv' ?_|refine uv' ?_|refine un' ?_|(refine us' ?_ ?_;all_goals(intro hc;try simp only[hcs]at hc;try(exfalso;first|contradiction|omega)))|apply QL.nil)
            all_goals (show DW _ _ _ _ _ _ _ _))
          all_goals (
            apply DW.loud 31
            · exact rfl
            · decide +kernel
            repeat'(first|refine kg' ?_|refine kG' ?_|apply kM|refine kv' ?_|refine kK' fun _=>?_|refine kU' ?_|refine kB' fun _=>?_|refine kA' fun _=>?_|(apply kq; (· exact rfl); (· intro w1 h1; exact CallsTo.q (m32 u.seq u.rep x.seq x.rep w1) h1))|(apply LR.call; (· exact rfl); (intro w1 h1; refine CallsTo.mono (show CallsTo Try.prog 27 [.slice none 0 0, u.val] w1 _ from m27 sort_few [] none 0 u w1 (Rd.nil _ _) (fun _ => rfl) (by decide) (by decide) hum) ?_; rintro v w2 ⟨a9, c9, rfl, hn⟩; rw [hln] at hn ⊢; refine LR.back (h1.newSl hn) ?_; clear hn h1)))
            all_goals (refine At.stage_same (fun _ h => St.sub h subZ) ?_))
          all_goals (
            apply DW.quiet [32, 33]
            · decide +kernel
            · first | exact fun _ h => h | exact fun _ h => St.sub h subZ
            repeat'(first|(apply QL.ev; (· exact rfl); (· apply Ev.indexAddr; (· exact rfl); (· exact rfl); (· omega); (· omega)); (· exact rfl))|(apply QL.evg; (iterate 3 exact rfl); (· apply Ev.indexAddr; (· exact rfl); (· exact rfl); (· omega); (· omega)); (· exact rfl))|(apply QL.ev; (· exact rfl); (· apply Ev.load (v := .int .i64 u.ring); (· exact rfl); (· intro w' hw'; refine pcs_one (hw'.rd_of memZ) hlu 0 rfl ?_; (· omega))); (· exact rfl))|(apply QL.ev; (· exact rfl); (· apply Ev.load (v := .int .i64 x.ring); (· exact rfl); (· intro w' hw'; refine pcs_one (hw'.rd_of memZ) hlx 0 rfl ?_; (· omega))); (· exact rfl))|(apply QL.ev; (· exact rfl); (· first | (apply Ev.eqlT; (· exact rfl); (· exact rfl); (· first | assumption | omega | decide)) | (apply Ev.eqlF; (· exact rfl); (· exact rfl); (· first | assumption | omega | decide))); (· exact rfl))|(apply QL.evg; (iterate 3 exact rfl); (· first | (apply Ev.eqlT; (· exact rfl); (· exact rfl); (· first | assumption | omega | decide)) | (apply Ev.eqlF; (· exact rfl); (· exact rfl); (· first | assumption | omega | decide))); (· exact rfl))|(apply QL.evg; (iterate 3 exact rfl); (· apply Ev.load_agg_at (cs := [Value.int .i64 u.ring, .int .i64 u.seq, .int .i64 u.rep, .int .i64 u.members]); (· exact rfl); (· exact rfl); (· intro w' hw'; refine pcs_cell (x := u) (hw'.rd_of memZ) hlu ?_; (· omega))); (· exact rfl))|(apply QL.evg; (iterate 3 exact rfl); (· apply Ev.load_agg_at (cs := [Value.int .i64 u.seq, .int .i64 u.rep]); (· exact rfl); (· exact rfl); (· intro w' hw' j v hj; refine pcs_two (hw'.rd_of memZ) hlu hj ?_; (· omega))); (· exact rfl))|(apply QL.evg; (iterate 3 exact rfl); (· apply Ev.load_agg_at (cs := [Value.int .i64 x.seq, .int .i64 x.rep]); (· exact rfl); (· exact rfl); (· intro w' hw' j v hj; refine pcs_two (hw'.rd_of memZ) hlx hj ?_; (· omega))); (· exact rfl))|(apply QL.evg; (iterate 3 exact rfl); (· first | (apply Ev.gtrF; (· exact rfl); (· exact rfl); (· first | assumption | omega)) | (apply Ev.gtrT; (· exact rfl); (· exact rfl); (· first | assumption | omega))); (· exact rfl))|refine yv' ?_|refine uv' ?_|refine un' ?_|(refine us' ?_ ?_;all_goals(intro hc;try simp only[hcs]at hc;try(exfalso;first|contradiction|omega)))|apply QL.nil)
            all_goals (show DW _ _ _ _ _ _ _ _))
          all_goals (first | (apply DW.done_thn; (· decide +kernel)) | (apply DW.done; (· decide +kernel)))
          repeat'(first|refine kv' ?_|apply jJ|refine jE' ?_|refine jp' ?_|(apply jc;kernel_rfl)|refine kg' ?_|refine kG' ?_|refine kB' fun _=>?_|refine kA' fun _=>?_|refine kK' fun _=>?_|refine kU' ?_|(apply addX;(iterate 2 exact rfl);(iterate 2(first|omega|(dsimp only;omega)));exact rfl)|((first|refine kR' ?_ ?_|refine kQ' ?_ ?_);all_goals(intro hc;try simp only[hcs]at hc;try(exfalso;first|contradiction|omega))))
          refine At.again (j + 1) (by omega) ?_ ⟨rfl, trivial⟩ (fun w' hw' => hw'.sub subZ) (by omega)
          (repeat (first | exact Out.refl _ _ | exact Out.mix | (apply Out.upd; (· exact rfl)) | (apply Out.updL; (· exact rfl)) | (apply Out.mixs; (· exact rfl))))
        · have hln : lrnP [] u = [] := by rw [lrn_nil, if_neg h2]
          repeat'(first|(apply CW.reg_heldC)|refine kv' ?_|apply jJ|refine jE' ?_|refine jp' ?_|(apply jc;kernel_rfl)|refine kg' ?_|refine kG' ?_|refine kB' fun _=>?_|refine kA' fun _=>?_|refine kK' fun _=>?_|refine kU' ?_|((first|refine kR' ?_ ?_|refine kQ' ?_ ?_);all_goals(intro hc;try simp only[hcs]at hc;try(exfalso;first|contradiction|omega))))
          all_goals (
            apply DW.quiet [0, 1, 2, 3, 4, 5, 6, 7, 8, 9, 10, 11, 12, 13, 14, 15]
            · decide +kernel
            · first | exact fun _ h => h | exact fun _ h => St.sub h subZ
            repeat'(first|(apply QL.ev; (· exact rfl); (· apply Ev.indexAddr; (· exact rfl); (· exact rfl); (· omega); (· omega)); (· exact rfl))|(apply QL.evg; (iterate 3 exact rfl); (· apply Ev.indexAddr; (· exact rfl); (· exact rfl); (· omega); (· omega)); (· exact rfl))|(apply QL.ev; (· exact rfl); (· apply Ev.load (v := .int .i64 u.ring); (· exact rfl); (· intro w' hw'; refine pcs_one (hw'.rd_of memZ) hlu 0 rfl ?_; (· omega))); (· exact rfl))|(apply QL.ev; (· exact rfl); (· apply Ev.load (v := .int .i64 x.ring); (· exact rfl); (· intro w' hw'; refine pcs_one (hw'.rd_of memZ) hlx 0 rfl ?_; (· omega))); (· exact rfl))|(apply QL.ev; (· exact rfl); (· first | (apply Ev.eqlT; (· exact rfl); (· exact rfl); (· first | assumption | omega | decide)) | (apply Ev.eqlF; (· exact rfl); (· exact rfl); (· first | assumption | omega | decide))); (· exact rfl))|(apply QL.evg; (iterate 3 exact rfl); (· first | (apply Ev.eqlT; (· exact rfl); (· exact rfl); (· first | assumption | omega | decide)) | (apply Ev.eqlF; (· exact rfl); (· exact rfl); (· first | assumption | omega | decide))); (· exact rfl))|(apply QL.evg; (iterate 3 exact rfl); (· apply Ev.load_agg_at (cs := [Value.int .i64 u.ring, .int .i64 u.seq, .int .i64 u.rep, .int .i64 u.members]); (· exact rfl); (· exact rfl); (· intro w' hw'; refine pcs_cell (x := u) (hw'.rd_of memZ) hlu ?_; (· omega))); (· exact rfl))|(apply QL.evg; (iterate 3 exact rfl); (· apply Ev.load_agg_at (cs := [Value.int .i64 u.seq, .int .i64 u.rep]); (· exact rfl); (· exact rfl); (· intro w' hw' j v hj; refine pcs_two (hw'.rd_of memZ) hlu hj ?_; (· omega))); (· exact rfl))|(apply QL.evg; (iterate 3 exact rfl); (· apply Ev.load_agg_at (cs := [Value.int .i64 x.seq, .int .i64 x.rep]); (· exact rfl); (· exact rfl); (· intro w' hw' j v hj; refine pcs_two (hw'.rd_of memZ) hlx hj ?_; (· omega))); (· exact rfl))|(apply QL.evg; (iterate 3 exact rfl); (· first | (apply Ev.gtrF; (· exact rfl); (· exact rfl); (· first | assumption | omega)) | (apply Ev.gtrT; (· exact rfl); (· exact rfl); (· first | assumption | omega))); (· exact rfl))|refine yv' ?_|refine uv' ?_|refine un' ?_|(refine us' ?_ ?_;all_goals(intro hc;try simp only[hcs]at hc;try(exfalso;first|contradiction|omega)))|apply QL.nil)
            all_goals (show DW _ _ _ _ _ _ _ _))
          all_goals (
            apply DW.loud 16
            · exact rfl
            · decide +kernel
            repeat'(first|refine kg' ?_|refine kG' ?_|apply kM|refine kv' ?_|refine kK' fun _=>?_|refine kU' ?_|refine kB' fun _=>?_|refine kA' fun _=>?_|(apply kq; (· exact rfl); (· intro w1 h1; exact CallsTo.q (m32 u.seq u.rep x.seq x.rep w1) h1))|(apply LR.call; (· exact rfl); (intro w1 h1; refine CallsTo.mono (show CallsTo Try.prog 27 [.slice none 0 0, u.val] w1 _ from m27 sort_few [] none 0 u w1 (Rd.nil _ _) (fun _ => rfl) (by decide) (by decide) hum) ?_; rintro v w2 ⟨a9, c9, rfl, hn⟩; rw [hln] at hn ⊢; refine LR.back (h1.newSl hn) ?_; clear hn h1)))
            all_goals (refine At.stage_same (fun _ h => St.sub h subZ) ?_))
          all_goals (
            apply DW.quiet [17, 18, 19, 20, 21, 22, 23, 24, 25, 26, 27, 28, 29, 30]
            · decide +kernel
            · first | exact fun _ h => h | exact fun _ h => St.sub h subZ
            repeat'(first|(apply QL.ev; (· exact rfl); (· apply Ev.indexAddr; (· exact rfl); (· exact rfl); (· omega); (· omega)); (· exact rfl))|(apply QL.evg; (iterate 3 exact rfl); (· apply Ev.indexAddr; (· exact rfl); (· exact rfl); (· omega); (· omega)); (· exact rfl))|(apply QL.ev; (· exact rfl); (· apply Ev.load (v := .int .i64 u.ring); (· exact rfl); (· intro w' hw'; refine pcs_one (hw'.rd_of memZ) hlu 0 rfl ?_; (· omega))); (· exact rfl))|(apply QL.ev; (· exact rfl); (· apply Ev.load (v := .int .i64 x.ring); (· exact rfl); (· intro w' hw'; refine pcs_one (hw'.rd_of memZ) hlx 0 rfl ?_; (· omega))); (· exact rfl))|(apply QL.ev; (· exact rfl); (· first | (apply Ev.eqlT; (· exact rfl); (· exact rfl); (· first | assumption | omega | decide)) | (apply Ev.eqlF; (· exact rfl); (· exact rfl); (· first | assumption | omega | decide))); (· exact rfl))|(apply QL.evg; (iterate 3 exact rfl); (· first | (apply Ev.eqlT; (· exact rfl); (· exact rfl); (· first | assumption | omega | decide)) | (apply Ev.eqlF; (· exact rfl); (· exact rfl); (· first | assumption | omega | decide))); (· exact rfl))|(apply QL.evg; (iterate 3 exact rfl); (· apply Ev.load_agg_at (cs := [Value.int .i64 u.ring, .int .i64 u.seq, .int .i64 u.rep, .int .i64 u.members]); (· exact rfl); (· exact rfl); (· intro w' hw'; refine pcs_cell (x := u) (hw'.rd_of memZ) hlu ?_; (· omega))); (· exact rfl))|(apply QL.evg; (iterate 3 exact rfl); (· apply Ev.load_agg_at (cs := [Value.int .i64 u.seq, .int .i64 u.rep]); (· exact rfl); (· exact rfl); (· intro w' hw' j v hj; refine pcs_two (hw'.rd_of memZ) hlu hj ?_; (· omega))); (· exact rfl))|(apply QL.evg; (iterate 3 exact rfl); (· apply Ev.load_agg_at (cs := [Value.int .i64 x.seq, .int .i64 x.rep]); (· exact rfl); (· exact rfl); (· intro w' hw' j v hj; refine pcs_two (hw'.rd_of memZ) hlx hj ?_; (· omega))); (· exact rfl))|(apply QL.evg; (iterate 3 exact rfl); (· first | (apply Ev.gtrF; (· exact rfl); (· exact rfl); (· first | assumption | omega)) | (apply Ev.gtrT; (· exact rfl); (· exact rfl); (· first | assumption | omega))); (· exact rfl))|refine yv' ?_|refine uv' ?_|refine un' ?_|(refine us' ?_ ?_;all_goals(intro hc;try simp only[hcs]at hc;try(exfalso;first|contradiction|omega)))|apply QL.nil)
            all_goals (show DW _ _ _ _ _ _ _ _))
          all_goals (
            apply DW.loud 31
            · exact rfl
            · decide +kernel
            repeat'(first|refine kg' ?_|refine kG' ?_|apply kM|refine kv' ?_|refine kK' fun _=>?_|refine kU' ?_|refine kB' fun _=>?_|refine kA' fun _=>?_|(apply kq; (· exact rfl); (· intro w1 h1; exact CallsTo.q (m32 u.seq u.rep x.seq x.rep w1) h1))|(apply LR.call; (· exact rfl); (intro w1 h1; refine CallsTo.mono (show CallsTo Try.prog 27 [.slice none 0 0, u.val] w1 _ from m27 sort_few [] none 0 u w1 (Rd.nil _ _) (fun _ => rfl) (by decide) (by decide) hum) ?_; rintro v w2 ⟨a9, c9, rfl, hn⟩; rw [hln] at hn ⊢; refine LR.back (h1.newSl hn) ?_; clear hn h1)))
            all_goals (refine At.stage_same (fun _ h => St.sub h subZ) ?_))
          all_goals (
            apply DW.quiet [32, 33]
            · decide +kernel
            · first | exact fun _ h => h | exact fun _ h => St.sub h subZ
            repeat'(first|(apply QL.ev; (· exact rfl); (· apply Ev.indexAddr; (· exact rfl); (· exact rfl); (· omega); (· omega)); (· exact rfl))|(apply QL.evg; (iterate 3 exact rfl); (· apply Ev.indexAddr; (· exact rfl); (· exact rfl); (· omega); (· omega)); (· exact rfl))|(apply QL.ev; (· exact rfl); (· apply Ev.load (v := .int .i64 u.ring); (· exact rfl); (· intro w' hw'; refine pcs_one (hw'.rd_of memZ) hlu 0 rfl ?_; (· omega))); (· exact rfl))|(apply QL.ev; (· exact rfl); (· apply Ev.load (v := .int .i64 x.ring); (· exact rfl); (· intro w' hw'; refine pcs_one (hw'.rd_of memZ) hlx 0 rfl ?_; (· omega))); (· exact rfl))|(apply QL.ev; (· exact rfl); (· first | (apply Ev.eqlT; (· exact rfl); (· exact rfl); (· first | assumption | omega | decide)) | (apply Ev.eqlF; (· exact rfl); (· exact rfl); (· first | assumption | omega | decide))); (· exact rfl))|(apply QL.evg; (iterate 3 exact rfl); (· first | (apply Ev.eqlT; (· exact rfl); (· exact rfl); (· first | assumption | omega | decide)) | (apply Ev.eqlF; (· exact rfl); (· exact rfl); (· first | assumption | omega | decide))); (· exact rfl))|(apply QL.evg; (iterate 3 exact rfl); (· apply Ev.load_agg_at (cs := [Value.int .i64 u.ring, .int .i64 u.seq, .int .i64 u.rep, .int .i64 u.members]); (· exact rfl); (· exact rfl); (· intro w' hw'; refine pcs_cell (x := u) (hw'.rd_of memZ) hlu ?_; (· omega))); (· exact rfl))|(apply QL.evg; (iterate 3 exact rfl); (· apply Ev.load_agg_at (cs := [Value.int .i64 u.seq, .int .i64 u.rep]); (· exact rfl); (· exact rfl); (· intro w' hw' j v hj; refine pcs_two (hw'.rd_of memZ) hlu hj ?_; (· omega))); (· exact rfl))|(apply QL.evg; (iterate 3 exact rfl); (· apply Ev.load_agg_at (cs := [Value.int .i64 x.seq, .int .i64 x.rep]); (· exact rfl); (· exact rfl); (· intro w' hw' j v hj; refine pcs_two (hw'.rd_of memZ) hlx hj ?_; (· omega))); (· exact rfl))|(apply QL.evg; (iterate 3 exact rfl); (· first | (apply Ev.gtrF; (· exact rfl); (· exact rfl); (· first | assumption | omega)) | (apply Ev.gtrT; (· exact rfl); (· exact rfl); (· first | assumption | omega))); (· exact rfl))|refine yv' ?_|refine uv' ?_|refine un' ?_|(refine us' ?_ ?_;all_goals(intro hc;try simp only[hcs]at hc;try(exfalso;first|contradiction|omega)))|apply QL.nil)
            all_goals (show DW _ _ _ _ _ _ _ _))
          all_goals (first | (apply DW.done_thn; (· decide +kernel)) | (apply DW.done; (· decide +kernel)))
          repeat'(first|refine kv' ?_|apply jJ|refine jE' ?_|refine jp' ?_|(apply jc;kernel_rfl)|refine kg' ?_|refine kG' ?_|refine kB' fun _=>?_|refine kA' fun _=>?_|refine kK' fun _=>?_|refine kU' ?_|(apply addX;(iterate 2 exact rfl);(iterate 2(first|omega|(dsimp only;omega)));exact rfl)|((first|refine kR' ?_ ?_|refine kQ' ?_ ?_);all_goals(intro hc;try simp only[hcs]at hc;try(exfalso;first|contradiction|omega))))
          refine At.again (j + 1) (by omega) ?_ ⟨rfl, trivial⟩ (fun w' hw' => hw'.sub subZ) (by omega)
          (repeat (first | exact Out.refl _ _ | exact Out.mix | (apply Out.upd; (· exact rfl)) | (apply Out.updL; (· exact rfl)) | (apply Out.mixs; (· exact rfl))))
      · repeat'(first|(apply CW.reg_heldC)|refine kv' ?_|apply jJ|refine jE' ?_|refine jp' ?_|(apply jc;kernel_rfl)|refine kg' ?_|refine kG' ?_|refine kB' fun _=>?_|refine kA' fun _=>?_|refine kK' fun _=>?_|refine kU' ?_|((first|refine kR' ?_ ?_|refine kQ' ?_ ?_);all_goals(intro hc;try simp only[hcs]at hc;try(exfalso;first|contradiction|omega))))
        all_goals (
          apply DW.quiet [0, 1, 2, 3, 4, 5, 6, 7, 8, 9, 10, 11, 12, 13, 14, 15]
          · decide +kernel
          · first | exact fun _ h => h | exact fun _ h => St.sub h subZ
          repeat'(first|(apply QL.ev; (· exact rfl); (· apply Ev.indexAddr; (· exact rfl); (· exact rfl); (· omega); (· omega)); (· exact rfl))|(apply QL.evg; (iterate 3 exact rfl); (· apply Ev.indexAddr; (· exact rfl); (· exact rfl); (· omega); (· omega)); (· exact rfl))|(apply QL.ev; (· exact rfl); (· apply Ev.load (v := .int .i64 u.ring); (· exact rfl); (· intro w' hw'; refine pcs_one (hw'.rd_of memZ) hlu 0 rfl ?_; (· omega))); (· exact rfl))|(apply QL.ev; (· exact rfl); (· apply Ev.load (v := .int .i64 x.ring); (· exact rfl); (· intro w' hw'; refine pcs_one (hw'.rd_of memZ) hlx 0 rfl ?_; (· omega))); (· exact rfl))|(apply QL.ev; (· exact rfl); (· first | (apply Ev.eqlT; (· exact rfl); (· exact rfl); (· first | assumption | omega | decide)) | (apply Ev.eqlF; (· exact rfl); (· exact rfl); (· first | assumption | omega | decide))); (· exact rfl))|(apply QL.evg; (iterate 3 exact rfl); (· first | (apply Ev.eqlT; (· exact rfl); (· exact rfl); (· first | assumption | omega | decide)) | (apply Ev.eqlF; (· exact rfl); (· exact rfl); (· first | assumption | omega | decide))); (· exact rfl))|(apply QL.evg; (iterate 3 exact rfl); (· apply Ev.load_agg_at (cs := [Value.int .i64 u.ring, .int .i64 u.seq, .int .i64 u.rep, .int .i64 u.members]); (· exact rfl); (· exact rfl); (· intro w' hw'; refine pcs_cell (x := u) (hw'.rd_of memZ) hlu ?_; (· omega))); (· exact rfl))|(apply QL.evg; (iterate 3 exact rfl); (· apply Ev.load_agg_at (cs := [Value.int .i64 u.seq, .int .i64 u.rep]); (· exact rfl); (· exact rfl); (· intro w' hw' j v hj; refine pcs_two (hw'.rd_of memZ) hlu hj ?_; (· omega))); (· exact rfl))|(apply QL.evg; (iterate 3 exact rfl); (· apply Ev.load_agg_at (cs := [Value.int .i64 x.seq, .int .i64 x.rep]); (· exact rfl); (· exact rfl); (· intro w' hw' j v hj; refine pcs_two (hw'.rd_of memZ) hlx hj ?_; (· omega))); (· exact rfl))|(apply QL.evg; (iterate 3 exact rfl); (· first | (apply Ev.gtrF; (· exact rfl); (· exact rfl); (· first | assumption | omega)) | (apply Ev.gtrT; (· exact rfl); (· exact rfl); (· first | assumption | omega))); (· exact rfl))|refine yv' ?_|refine uv' ?_|refine un' ?_|(refine us' ?_ ?_;all_goals(intro hc;try simp only[hcs]at hc;try(exfalso;first|contradiction|omega)))|apply QL.nil)
          all_goals (show DW _ _ _ _ _ _ _ _))
        all_goals (
          apply DW.loud 16
          · exact rfl
          · decide +kernel
          repeat'(first|refine kg' ?_|refine kG' ?_|apply kM|refine kv' ?_|refine kK' fun _=>?_|refine kU' ?_|refine kB' fun _=>?_|refine kA' fun _=>?_|(apply kq; (· exact rfl); (· intro w1 h1; exact CallsTo.q (m32 u.seq u.rep x.seq x.rep w1) h1))|(apply LR.call; (· exact rfl); (intro w1 h1; refine CallsTo.mono (show CallsTo Try.prog 27 [.slice none 0 0, u.val] w1 _ from m27 sort_few [] none 0 u w1 (Rd.nil _ _) (fun _ => rfl) (by decide) (by decide) hum) ?_; rintro v w2 ⟨a9, c9, rfl, hn⟩; rw [hln] at hn ⊢; refine LR.back (h1.newSl hn) ?_; clear hn h1)))
          all_goals (refine At.stage_same (fun _ h => St.sub h subZ) ?_))
        all_goals (
          apply DW.quiet [17, 18, 19, 20, 21, 22, 23, 24, 25, 26, 27, 28, 29, 30]
          · decide +kernel
          · first | exact fun _ h => h | exact fun _ h => St.sub h subZ
          repeat'(first|(apply QL.ev; (· exact rfl); (· apply Ev.indexAddr; (· exact rfl); (· exact rfl); (· omega); (· omega)); (· exact rfl))|(apply QL.evg; (iterate 3 exact rfl); (· apply Ev.indexAddr; (· exact rfl); (· exact rfl); (· omega); (· omega)); (· exact rfl))|(apply QL.ev; (· exact rfl); (· apply Ev.load (v := .int .i64 u.ring); (· exact rfl); (· intro w' hw'; refine pcs_one (hw'.rd_of memZ) hlu 0 rfl ?_; (· omega))); (· exact rfl))|(apply QL.ev; (· exact rfl); (· apply Ev.load (v := .int .i64 x.ring); (· exact rfl); (· intro w' hw'; refine pcs_one (hw'.rd_of memZ) hlx 0 rfl ?_; (· omega))); (· exact rfl))|(apply QL.ev; (· exact rfl); (· first | (apply Ev.eqlT; (· exact rfl); (· exact rfl); (· first | assumption | omega | decide)) | (apply Ev.eqlF; (· exact rfl); (· exact rfl); (· first | assumption | omega | decide))); (· exact rfl))|(apply QL.evg; (iterate 3 exact rfl); (· first | (apply Ev.eqlT; (· exact rfl); (· exact rfl); (· first | assumption | omega | decide)) | (apply Ev.eqlF; (· exact rfl); (· exact rfl); (· first | assumption | omega | decide))); (· exact rfl))|(apply QL.evg; (iterate 3 exact rfl); (· apply Ev.load_agg_at (cs := [Value.int .i64 u.ring, .int .i64 u.seq, .int .i64 u.rep, .int .i64 u.members]); (· exact rfl); (· exact rfl); (· intro w' hw'; refine pcs_cell (x := u) (hw'.rd_of memZ) hlu ?_; (· omega))); (· exact rfl))|(apply QL.evg; (iterate 3 exact rfl); (· apply Ev.load_agg_at (cs := [Value.int .i64 u.seq, .int .i64 u.rep]); (· exact rfl); (· exact rfl); (· intro w' hw' j v hj; refine pcs_two (hw'.rd_of memZ) hlu hj ?_; (· omega))); (· exact rfl))|(apply QL.evg; (iterate 3 exact rfl); (· apply Ev.load_agg_at (cs := [Value.int .i64 x.seq, .int .i64 x.rep]); (· exact rfl); (· exact rfl); (· intro w' hw' j v hj; refine pcs_two (hw'.rd_of memZ) hlx hj ?_; (· omega))); (· exact rfl))|(apply QL.evg; (iterate 3 exact rfl); (· first | (apply Ev.gtrF; (· exact rfl); (· exact rfl); (· first | assumption | omega)) | (apply Ev.gtrT; (· exact rfl); (· exact rfl); (· first | assumption | omega))); (· exact rfl))|refine yv' ?_|refine uv' ?_|refine un' ?_|(refine us' ?_ ?_;all_goals(intro hc;try simp only[hcs]at hc;try(exfalso;first|contradiction|omega)))|apply QL.nil)
          all_goals (show DW _ _ _ _ _ _ _ _))
        all_goals (
          apply DW.loud 31
          · exact rfl
          · decide +kernel
          repeat'(first|refine kg' ?_|refine kG' ?_|apply kM|refine kv' ?_|refine kK' fun _=>?_|refine kU' ?_|refine kB' fun _=>?_|refine kA' fun _=>?_|(apply kq; (· exact rfl); (· intro w1 h1; exact CallsTo.q (m32 u.seq u.rep x.seq x.rep w1) h1))|(apply LR.call; (· exact rfl); (intro w1 h1; refine CallsTo.mono (show CallsTo Try.prog 27 [.slice none 0 0, u.val] w1 _ from m27 sort_few [] none 0 u w1 (Rd.nil _ _) (fun _ => rfl) (by decide) (by decide) hum) ?_; rintro v w2 ⟨a9, c9, rfl, hn⟩; rw [hln] at hn ⊢; refine LR.back (h1.newSl hn) ?_; clear hn h1)))
          all_goals (refine At.stage_same (fun _ h => St.sub h subZ) ?_))
        all_goals (
          apply DW.quiet [32, 33]
          · decide +kernel
          · first | exact fun _ h => h | exact fun _ h => St.sub h subZ
          repeat'(first|(apply QL.ev; (· exact rfl); (· apply Ev.indexAddr; (· exact rfl); (· exact rfl); (· omega); (· omega)); (· exact rfl))|(apply QL.evg; (iterate 3 exact rfl); (· apply Ev.indexAddr; (· exact rfl); (· exact rfl); (· omega); (· omega)); (· exact rfl))|(apply QL.ev; (· exact rfl); (· apply Ev.load (v := .int .i64 u.ring); (· exact rfl); (· intro w' hw'; refine pcs_one (hw'.rd_of memZ) hlu 0 rfl ?_; (· omega))); (· exact rfl))|(apply QL.ev; (· exact rfl); (· apply Ev.load (v := .int .i64 x.ring); (· exact rfl); (· intro w' hw'; refine pcs_one (hw'.rd_of memZ) hlx 0 rfl ?_; (· omega))); (· exact rfl))|(apply QL.ev; (· exact rfl); (· first | (apply Ev.eqlT; (· exact rfl); (· exact rfl); (· first | assumption | omega | decide)) | (apply Ev.eqlF; (· exact rfl); (· exact rfl); (· first | assumption | omega | decide))); (· exact rfl))|(apply QL.evg; (iterate 3 exact rfl); (· first | (apply Ev.eqlT; (· exact rfl); (· exact rfl); (· first | assumption | omega | decide)) | (apply Ev.eqlF; (· exact rfl); (· exact rfl); (· first | assumption | omega | decide))); (· exact rfl))|(apply QL.evg; (iterate 3 exact rfl); (· apply Ev.load_agg_at (cs := [Value.int .i64 u.ring, .int .i64 u.seq, .int .i64 u.rep, .int .i64 u.members]); (· exact rfl); (· exact rfl); (· intro w' hw'; refine pcs_cell (x := u) (hw'.rd_of memZ) hlu ?_; (· omega))); (· exact rfl))|(apply QL.evg; (iterate 3 exact rfl); (· apply Ev.load_agg_at (cs := [Value.int .i64 u.seq, .int .i64 u.rep]); (· exact rfl); (· exact rfl); (· intro w' hw' j v hj; refine pcs_two (hw'.rd_of memZ) hlu hj ?_; (· omega))); (· exact rfl))|(apply QL.evg; (iterate 3 exact rfl); (· apply Ev.load_agg_at (cs := [Value.int .i64 x.seq, .int .i64 x.rep]); (· exact rfl); (· exact rfl); (· intro w' hw' j v hj; refine pcs_two (hw'.rd_of memZ) hlx hj ?_; (· omega))); (· exact rfl))|(apply QL.evg; (iterate 3 exact rfl); (· first | (apply Ev.gtrF; (· exact rfl); (· exact rfl); (· first | assumption | omega)) | (apply Ev.gtrT; (· exact rfl); (· exact rfl); (· first | assumption | omega))); (· exact rfl))|refine yv' ?_|refine uv' ?_|refine un' ?_|(refine us' ?_ ?_;all_goals(intro hc;try simp only[hcs]at hc;try(exfalso;first|contradiction|omega)))|apply QL.nil)
          all_goals (show DW _ _ _ _ _ _ _ _))
        all_goals (first | (apply DW.done_thn; (· decide +kernel)) | (apply DW.done; (· decide +kernel)))
        repeat'(first|refine kv' ?_|apply jJ|refine jE' ?_|refine jp' ?_|(apply jc;kernel_rfl)|refine kg' ?_|refine kG' ?_|refine kB' fun _=>?_|refine kA' fun _=>?_|refine kK' fun _=>?_|refine kU' ?_|(apply addX;(iterate 2 exact rfl);(iterate 2(first|omega|(dsimp only;omega)));exact rfl)|((first|refine kR' ?_ ?_|refine kQ' ?_ ?_);all_goals(intro hc;try simp only[hcs]at hc;try(exfalso;first|contradiction|omega))))
        refine At.again (j + 1) (by omega) ?_ ⟨rfl, trivial⟩ (fun w' hw' => hw'.sub subZ) (by omega)
        (repeat (first | exact Out.refl _ _ | exact Out.mix | (apply Out.upd; (· exact rfl)) | (apply Out.updL; (· exact rfl)) | (apply Out.mixs; (· exact rfl))))
    · have hje : j = l.length := by omega
      subst hje
      repeat'(first|refine kv' ?_|apply jJ|refine jE' ?_|refine jp' ?_|(apply jc;kernel_rfl)|refine kg' ?_|refine kG' ?_|refine kB' fun _=>?_|refine kA' fun _=>?_|refine kK' fun _=>?_|refine kU' ?_|(apply addX;(iterate 2 exact rfl);(iterate 2(first|omega|(dsimp only;omega)));exact rfl)|((first|refine kR' ?_ ?_|refine kQ' ?_ ?_);all_goals(intro hc;try simp only[hcs]at hc;try(exfalso;first|contradiction|omega))))
      refine At.again (i + 1) (by omega) ?_ ⟨rfl, trivial⟩ (fun w' hw' => hw'.sub subZ) (by omega)
      (repeat (first | exact Out.refl _ _ | exact Out.mix | (apply Out.upd; (· exact rfl)) | (apply Out.updL; (· exact rfl)) | (apply Out.mixs; (· exact rfl))))
    )
end Go.Proofs.Ytgblmkpfkcibiaa

namespace Go.Proofs.Ytgblmkpfkcibiaa
open Go.Hb Go.ChangeShapes Go.WideShapes
attribute [local irreducible] LR CW At Ev thn blk finK noG again CallsTo DW QL dnext

set_option maxHeartbeats 1000000 in
set_option maxRecDepth 100000 in
theorem chartOrder_lifted (os : Os) (started : os.Started) (H : Type) (enc : TypeId × Value → H) :
    ReturnsInHanded {} Try.checked os 8 .any (Rows.chartOrderSpec.pre6 enc Try.prog Try.f8 Rows.chartOrderRow.domain false) (Rows.chartOrderSpec.post enc Try.prog Try.f8 false true false false) := by
  refine returnsInHanded_of_change_sized (C := Try.checked) (s := Rows.chartOrderSpec) own_knob started (by kernel_rfl) Try.func8
    (ChangeSpec.witness6 (enc := enc) (C := Try.checked) false ⟨#[], #[.slice none 0 0, .int .i64 0], []⟩ 12 (by kernel_rfl) (by kernel_rfl) (by kernel_rfl) (by kernel_rfl)) ?_
  intro W base args ds gs before hval hW hcnd hwt _
  have hW' := hW
  obtain ⟨p, q, hA0, hV, rfl, hfz, hnd⟩ := hW'
  obtain ⟨rfl, rfl⟩ := trodVars_none hV
  have hA : DataW.TrodAll enc Try.prog W 0 (fun _ => true) true Try.f8.params.toList args.toList ds p := hA0
  rw [Try.params8] at hA
  obtain ⟨v0, vs0, d0, ds0, p0, q0, hargs, rfl, rfl, h0, r0⟩ := trodAll_cons hA
  obtain ⟨v1, vs1, d1, ds1, p1, q1, rfl, rfl, rfl, h1, r1⟩ := trodAll_cons r0
  obtain ⟨rfl, rfl, rfl⟩ := trodAll_nil r1
  obtain rfl : args = #[v0, v1] := by cases args; simp_all
  obtain ⟨a0, c0, l0, hcs0, hr0, hb0, hz0, hc0, hm0⟩ := opn_arg (i := 0) opn_plcs h0 hwt rfl rfl
  obtain ⟨b0, n0, e0, rfl⟩ := okWide_slice Try.underlying37 (hval 0 37 v0 rfl rfl)
  have hcs0 : [Value.slice b0 n0 e0] = [.slice a0 l0.length c0] := hcs0
  simp only [List.cons.injEq, Value.slice.injEq, and_true] at hcs0
  obtain ⟨e10, e20, e30⟩ := hcs0
  have e10 := e10.symm
  have e30 := e30.symm
  subst e10; subst e20; subst e30
  obtain ⟨x1, hcs1, hb1⟩ := opn_arg (i := 1) opn_i64 h1 hwt rfl rfl
  obtain ⟨y1, rfl⟩ := okWide_int Try.underlying3 (hval 1 3 v1 rfl rfl)
  have hcs1 : [Value.int .i64 y1] = [.int .i64 x1] := hcs1
  simp only [List.cons.injEq, Value.int.injEq, true_and, and_true] at hcs1
  have hcs1 := hcs1.symm
  subst hcs1
  refine (m8 a0 c0 l0 x1 W hr0 hb0 hm0).calls fun v W' ⟨hv, hg⟩ => ⟨v, rfl, ?_⟩
  subst hv
  exact law_post kids full_slices hW hg rfl rfl (by kernel_rfl) Try.underlying4 (by rw [Try.params8]; decide +kernel)

theorem chartOrder_holds : Rows.ChartOrderSaid :=
  OpenClaim.holds_of_wide 8 Try.f8 rfl rfl rfl rfl rfl rfl rfl ⟨rfl, rfl, rfl, rfl, rfl⟩ rfl rfl rfl rfl rfl (by kernel_rfl) Try.func8 (by kernel_rfl)
    (of_decide_eq_true (by kernel_rfl)) (by unfold Func.isWrapper; first | (rw [if_pos (by decide +kernel)]; kernel_rfl) | (rw [if_neg (by decide +kernel)]; exact ⟨rfl, rfl⟩))
    (fun os started H enc _ => chartOrder_lifted os started H enc)
end Go.Proofs.Ytgblmkpfkcibiaa
