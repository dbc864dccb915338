/-
  With fewer places known no more is reached. Conditions: none.
-/
import Derived.Test.YtgblmkpfkcibiaaRHFM2
import Derived.OpenShut

set_option linter.unusedSimpArgs false
set_option linter.unusedVariables false
namespace Go.Proofs.Ytgblmkpfkcibiaa
open Go.Hb
attribute [local irreducible] LR CW At Ev thn blk finK noG again CallsTo DW QL dnext TW DP gpost
set_option maxRecDepth 100000

theorem m64 (y x : Plc) (bx : Nat) (w : World) (h : Rd w (some ⟨bx, 0, none⟩) x.cells) : CallsTo Try.prog 64 [y.val, .pointer (some ⟨bx, 0, none⟩)] w fun v w' => v = .bool (decide (y.ring = x.ring)) ∧ Grew w w' := by
  refine go_in (n := 9) (St.rd1 h) Try.func64 rfl rfl ?_
  repeat'(first|refine kv' ?_|apply jJ|refine jE' ?_|refine jp' ?_|(apply jc;kernel_rfl)|refine kg' ?_|refine kG' ?_|refine kB' fun _=>?_|refine kA' fun _=>?_|refine kK' fun _=>?_|refine kU' ?_|((first|refine kR' ?_ ?_|refine kQ' ?_ ?_);all_goals(intro hc;try simp only[hcs]at hc;try(exfalso;first|contradiction|omega))))
  (apply ret1; (· exact rfl); intro w' hS)
  exact ⟨rfl, hS.toKeep⟩
theorem m88 (a : Option Addr) (c : Nat) (D : List Plc) (x : Plc) (bx : Nat) (w : World) (hk : Rd w a (pcs D)) (hb : Rd w (some ⟨bx, 0, none⟩) x.cells) (hm : D.length ≤ 140737488355328)
    (i0 : Nat) (h0 : i0 ≤ D.length) (hno : ∀ k, (hk : k < i0) → ¬ (D[k]'(by omega)).ring = x.ring) (hend : (h : i0 < D.length) → (D[i0]'h).ring = x.ring) :
    CallsTo Try.prog 88 [.slice a D.length c, .func (.func 64) #[] #[.pointer (some ⟨bx, 0, none⟩)]] w fun v w' => v = .int .i64 (if i0 < D.length then (i0 : Int) else -1) ∧ Grew w w' := by
  refine go_in (n := 19) ((St.rd1 hk).addRd hb (fun _ _ h => h)) Try.func88 rfl rfl ?_
  repeat'(first|refine kv' ?_|apply jJ|refine jE' ?_|refine jp' ?_|(apply jc;kernel_rfl)|refine kg' ?_|refine kG' ?_|refine kB' fun _=>?_|refine kA' fun _=>?_|refine kK' fun _=>?_|refine kU' ?_|((first|refine kR' ?_ ?_|refine kQ' ?_ ?_);all_goals(intro hc;try simp only[hcs]at hc;try(exfalso;first|contradiction|omega))))
  apply CW.loop [4, 5, 8, 9, 10, 11, 12, 13, 14, 15, 16, 17, 18] (fun i : Nat => i ≤ i0) (fun i => [(8, .int .i64 (i : Int))]) (fun _ => St w NoF [rdA (some ⟨bx, 0, none⟩) x.cells, rdA a (pcs D)]) (fun i => i0 - i)
  · exact fun w' hw' => ⟨0, by omega, ⟨rfl, trivial⟩, hw'⟩
  intro i g hi
  by_cases hlt : i < D.length
  · obtain ⟨ba, oa, rfl⟩ := hk.form (fun e => by have h1 := congrArg List.length e; rw [pcs_length, List.length_nil] at h1; omega)
    obtain ⟨y, hy⟩ : ∃ y, D[i] = y := ⟨_, rfl⟩
    have hly : D[i]? = some y := by rw [List.getElem?_eq_getElem hlt, hy]
    by_cases hx : y.ring = x.ring
    · have hie : i = i0 := by
        rcases Nat.lt_or_ge i i0 with h | h
        · exact absurd (by rw [hy]; exact hx) (hno i h)
        · omega
      subst hie
      rw [if_pos hlt]
      repeat'(first|(apply LR.ev; (· apply Ev.load_agg_at (cs := y.cells); (· exact rfl); (· exact rfl); (· intro w' hw'; refine pcs_cell (x := y) (hw'.rd_of memZ) hly ?_; (· simp; done))); (· exact rfl))|refine kv' ?_|apply jJ|refine jE' ?_|refine jp' ?_|(apply jc;kernel_rfl)|refine kg' ?_|refine kG' ?_|refine kB' fun _=>?_|refine kA' fun _=>?_|refine kK' fun _=>?_|refine kU' ?_|(apply idxX;(iterate 2 exact rfl);(iterate 2(first|omega|(dsimp only;omega)));exact rfl)|(apply LR.qcall_val (g := 64) (cap := [.pointer (some ⟨bx, 0, none⟩)]) (v := .bool true); (· exact rfl); (· exact rfl); (· intro w1 h1; have hq := CallsTo.q (m64 y x bx w1 (h1.rd_of memZ)) h1; rw [decide_eq_true hx] at hq; exact hq))|((first|refine kR' ?_ ?_|refine kQ' ?_ ?_);all_goals(intro hc;try simp only[hcs]at hc;try(exfalso;first|contradiction|omega))))
      (apply ret1; (· exact rfl); intro w' hS)
      exact ⟨rfl, hS.toKeep⟩
    · have hlt2 : i < i0 := by
        rcases Nat.lt_or_ge i i0 with h | h
        · exact h
        · have e : i = i0 := by omega
          subst e
          exact absurd (by rw [← hy]; exact hend hlt) hx
      repeat'(first|(apply LR.ev; (· apply Ev.load_agg_at (cs := y.cells); (· exact rfl); (· exact rfl); (· intro w' hw'; refine pcs_cell (x := y) (hw'.rd_of memZ) hly ?_; (· simp; done))); (· exact rfl))|refine kv' ?_|apply jJ|refine jE' ?_|refine jp' ?_|(apply jc;kernel_rfl)|refine kg' ?_|refine kG' ?_|refine kB' fun _=>?_|refine kA' fun _=>?_|refine kK' fun _=>?_|refine kU' ?_|(apply idxX;(iterate 2 exact rfl);(iterate 2(first|omega|(dsimp only;omega)));exact rfl)|(apply addX;(iterate 2 exact rfl);(iterate 2(first|omega|(dsimp only;omega)));exact rfl)|(apply LR.qcall_val (g := 64) (cap := [.pointer (some ⟨bx, 0, none⟩)]) (v := .bool false); (· exact rfl); (· exact rfl); (· intro w1 h1; have hq := CallsTo.q (m64 y x bx w1 (h1.rd_of memZ)) h1; rw [decide_eq_false hx] at hq; exact hq))|((first|refine kR' ?_ ?_|refine kQ' ?_ ?_);all_goals(intro hc;try simp only[hcs]at hc;try(exfalso;first|contradiction|omega))))
      refine At.again (i + 1) (by omega) ?_ ⟨rfl, trivial⟩ (fun w' hw' => hw') (by omega)
      (repeat (first | exact Out.refl _ _ | exact Out.mix | (apply Out.upd; (· exact rfl)) | (apply Out.updL; (· exact rfl)) | (apply Out.mixs; (· exact rfl))))
  · have hie : i = D.length := by omega
    subst hie
    rw [if_neg (by omega)]
    repeat'(first|refine kv' ?_|apply jJ|refine jE' ?_|refine jp' ?_|(apply jc;kernel_rfl)|refine kg' ?_|refine kG' ?_|refine kB' fun _=>?_|refine kA' fun _=>?_|refine kK' fun _=>?_|refine kU' ?_|((first|refine kR' ?_ ?_|refine kQ' ?_ ?_);all_goals(intro hc;try simp only[hcs]at hc;try(exfalso;first|contradiction|omega))))
    (apply ret1; (· exact rfl); intro w' hS)
    exact ⟨rfl, hS.toKeep⟩
def noP (D : List Plc) (r : Int) : List Plc := D.filter fun y => decide (y.ring ≠ r)
theorem noP_len (D : List Plc) (r : Int) : (noP D r).length ≤ D.length := List.length_filter_le _ _
theorem first_of (D : List Plc) (r : Int) : ∃ i0, i0 ≤ D.length ∧ (∀ k, k < i0 → ∀ y, D[k]? = some y → ¬ y.ring = r) ∧ (∀ y, D[i0]? = some y → y.ring = r) := by
  induction D with
  | nil => exact ⟨0, Nat.le_refl _, fun k hk => by omega, fun y hy => by cases hy⟩
  | cons z D ih =>
    by_cases hz : z.ring = r
    · exact ⟨0, Nat.zero_le _, fun k hk => by omega, fun y hy => by simp at hy; rw [← hy]; exact hz⟩
    · obtain ⟨i, h1, h2, h3⟩ := ih
      refine ⟨i + 1, by simp; omega, fun k hk y hy => ?_, fun y hy => h3 y (by simpa using hy)⟩
      cases k with
      | zero => simp at hy; rw [← hy]; exact hz
      | succ k => exact h2 k (by omega) y (by simpa using hy)
structure DelI (D : List Plc) (r : Int) (j i : Nat) (D' : List Plc) : Prop where
  ij : i < j
  jl : j ≤ D.length
  len : D'.length = D.length
  pre : D'.take i = noP (D.take j) r
  suf : ∀ k, j ≤ k → D'[k]? = D[k]?
theorem DelI.skip {D D' : List Plc} {r : Int} {j i : Nat} (h : DelI D r j i D') (hj : j < D.length) (hx : (D[j]'hj).ring = r) : DelI D r (j + 1) i D' := by
  refine ⟨by have := h.ij; omega, hj, h.len, ?_, fun k hk => h.suf k (by omega)⟩
  rw [h.pre]
  unfold noP
  rw [filter_take D _ hj, if_neg (by simp [hx]), List.append_nil]
theorem DelI.keep {D D' : List Plc} {r : Int} {j i : Nat} (h : DelI D r j i D') (hj : j < D.length) (hx : ¬ (D[j]'hj).ring = r) : DelI D r (j + 1) (i + 1) (D'.set i (D[j]'hj)) := by
  have hij := h.ij
  have hl := h.len
  refine ⟨by omega, hj, by rw [List.length_set]; exact hl, ?_, fun k hk => ?_⟩
  · rw [List.take_add_one, List.getElem?_set_self (by omega), List.take_set_of_le (Nat.le_refl _), h.pre]
    unfold noP
    rw [filter_take D _ hj, if_pos (by simp [hx])]
    rfl
  · rw [List.getElem?_set_ne (by omega)]
    exact h.suf k (by omega)
set_option maxHeartbeats 2000000 in
theorem m63 (a : Option Addr) (c : Nat) (D : List Plc) (x : Plc) (bx : Nat) (w : World) (h : (pN a D.length c D).holds w) (hb : Rd w (some ⟨bx, 0, none⟩) x.cells) (hd : ∀ k, rdFoot (some ⟨bx, 0, none⟩) x.cells k → ¬ (pN a D.length c D).foot k) (hm : D.length ≤ 140737488355328) :
    CallsTo Try.prog 63 [.slice a D.length c, .func (.func 64) #[] #[.pointer (some ⟨bx, 0, none⟩)]] w fun v w' => v = .slice a (noP D x.ring).length c ∧ Step (pN a D.length c D) (pN a (noP D x.ring).length c (noP D x.ring)) w w' := by
  have hown : w.ownsRow 0 44 4 (.slice a D.length c) D.length (pcs D) := h
  have hcap := ownsRow_cap hown
  have hS0 : St w (pN a D.length c D).foot [rdA (some ⟨bx, 0, none⟩) x.cells, pN a D.length c D] w := (St.one h (fun k hk => (World.ownsRow.lt h k hk).2) (osl.dep _ _ _ _ _)).addRd hb hd
  generalize hF : (pN a D.length c D).foot = F at *
  refine go_in (n := 42) hS0 Try.func63 rfl rfl ?_
  obtain ⟨i0, hi0, hno, hend⟩ := first_of D x.ring
  have h88 : ∀ w1, St w F [rdA (some ⟨bx, 0, none⟩) x.cells, pN a D.length c D] w1 → CallsTo Try.prog 88 [.slice a D.length c, .func (.func 64) #[] #[.pointer (some ⟨bx, 0, none⟩)]] w1 fun v w' => v = .int .i64 (if i0 < D.length then (i0 : Int) else -1) ∧ St w F [rdA (some ⟨bx, 0, none⟩) x.cells, pN a D.length c D] w' := fun w1 h1 =>
    CallsTo.q (m88 a c D x bx w1 (h1.rd_of_own memZ) (h1.rd_of memZ) hm i0 hi0 (fun k hk => hno k hk _ (List.getElem?_eq_getElem (by omega))) (fun hh => hend _ (List.getElem?_eq_getElem hh))) h1
  by_cases hlt : i0 < D.length
  rotate_left
  · rw [if_neg hlt] at h88
    have hnn : noP D x.ring = D := by
      unfold noP
      rw [List.filter_eq_self]
      intro y hy
      obtain ⟨k, hk, rfl⟩ := List.getElem_of_mem hy
      have := hno k (by omega) _ (List.getElem?_eq_getElem hk)
      simpa using this
    rw [hnn]
    repeat'(first|refine kv' ?_|apply jJ|refine jE' ?_|refine jp' ?_|(apply jc;kernel_rfl)|refine kg' ?_|refine kG' ?_|refine kB' fun _=>?_|refine kA' fun _=>?_|refine kK' fun _=>?_|refine kU' ?_|(apply kq; (· exact rfl); (· intro w1 h1; exact h88 w1 h1))|((first|refine kR' ?_ ?_|refine kQ' ?_ ?_);all_goals(intro hc;try simp only[hcs]at hc;try(exfalso;first|contradiction|omega))))
    (apply ret1; (· exact rfl); intro w' hS)
    subst hF
    exact ⟨rfl, (hS.sub (L' := [pN a D.length c D]) subZ).step rfl⟩
  rw [if_pos hlt] at h88
  obtain ⟨ba, oa, rfl⟩ := (ownsRow_rd hown).form (fun e => by have h1 := congrArg List.length e; rw [pcs_length, List.length_nil] at h1; omega)
  have hI0 : DelI D x.ring (i0 + 1) i0 D := by
    refine ⟨by omega, by omega, rfl, ?_, fun k hk => rfl⟩
    unfold noP
    rw [filter_take D _ hlt, if_neg (by have := hend _ (List.getElem?_eq_getElem hlt); simp [this]), List.append_nil, eq_comm, List.filter_eq_self]
    intro y hy
    obtain ⟨k, hk, rfl⟩ := List.getElem_of_mem hy
    rw [List.length_take] at hk
    rw [List.getElem_take]
    have := hno k (by omega) _ (List.getElem?_eq_getElem (by omega))
    simpa using this
  repeat'(first|refine kv' ?_|apply jJ|refine jE' ?_|refine jp' ?_|(apply jc;kernel_rfl)|refine kg' ?_|refine kG' ?_|refine kB' fun _=>?_|refine kA' fun _=>?_|refine kK' fun _=>?_|refine kU' ?_|(apply addX;(iterate 2 exact rfl);(iterate 2(first|omega|(dsimp only;omega)));exact rfl)|(apply kq; (· exact rfl); (· intro w1 h1; exact h88 w1 h1))|((first|refine kR' ?_ ?_|refine kQ' ?_ ?_);all_goals(intro hc;try simp only[hcs]at hc;try(exfalso;first|contradiction|omega))))
  apply CW.loop [5, 6, 7, 16, 17, 18, 19, 20, 21, 22, 23, 24, 25, 26, 27, 28, 29, 30, 31, 32, 33, 34, 35] (fun s : Nat × Nat × List Plc => DelI D x.ring s.1 s.2.1 s.2.2) (fun s => [(5, .int .i64 (s.2.1 : Int)), (6, .int .i64 (s.1 : Int))])
    (fun s => St w F [rdA (some ⟨bx, 0, none⟩) x.cells, pN (some ⟨ba, oa, none⟩) D.length c s.2.2]) (fun s => D.length - s.1)
  · exact fun w' hw' => ⟨(i0 + 1, i0, D), hI0, ⟨rfl, rfl, trivial⟩, hw'⟩
  rintro ⟨j, i, D'⟩ g hI
  simp only at hI ⊢
  have hij := hI.ij
  have hjl := hI.jl
  have hDl := hI.len
  by_cases hlt2 : j < D.length
  · obtain ⟨y, hy⟩ : ∃ y, D[j] = y := ⟨_, rfl⟩
    have hly : D'[j]? = some y := by rw [hI.suf j (Nat.le_refl _), List.getElem?_eq_getElem hlt2, hy]
    have hskip := hI.skip hlt2
    have hkeep := hI.keep hlt2
    rw [hy] at hskip hkeep
    by_cases hx : y.ring = x.ring
    · have hskip := hskip hx
      repeat'(first|(apply LR.ev; (· apply Ev.load_agg_at (cs := [Value.int .i64 y.ring, .int .i64 y.seq, .int .i64 y.rep, .int .i64 y.members]); (· exact rfl); (· exact rfl); (· intro w' hw'; refine pcs_cell (x := y) (hw'.rd_of_own memZ) hly ?_; (· simp; done))); (· exact rfl))|refine kv' ?_|apply jJ|refine jE' ?_|refine jp' ?_|(apply jc;kernel_rfl)|refine kg' ?_|refine kG' ?_|refine kB' fun _=>?_|refine kA' fun _=>?_|refine kK' fun _=>?_|refine kU' ?_|(apply idxX;(iterate 2 exact rfl);(iterate 2(first|omega|(dsimp only;omega)));exact rfl)|(apply addX;(iterate 2 exact rfl);(iterate 2(first|omega|(dsimp only;omega)));exact rfl)|(apply LR.qcall_val (g := 64) (cap := [.pointer (some ⟨bx, 0, none⟩)]) (v := .bool true); (· exact rfl); (· exact rfl); (· intro w1 h1; have hq := CallsTo.q (m64 y x bx w1 (h1.rd_of memZ)) h1; rw [decide_eq_true hx] at hq; exact hq))|((first|refine kR' ?_ ?_|refine kQ' ?_ ?_);all_goals(intro hc;try simp only[hcs]at hc;try(exfalso;first|contradiction|omega))))
      refine At.again (j + 1, i, D') hskip ?_ ⟨rfl, rfl, trivial⟩ (fun w' hw' => hw'.sub subZ) (by show D.length - (j + 1) < D.length - j; omega)
      (repeat (first | exact Out.refl _ _ | exact Out.mix | (apply Out.upd; (· exact rfl)) | (apply Out.updL; (· exact rfl)) | (apply Out.mixs; (· exact rfl))))
    · have hkeep := hkeep hx
      repeat'(first|(apply LR.ev; (· apply Ev.load_agg_at (cs := [Value.int .i64 y.ring, .int .i64 y.seq, .int .i64 y.rep, .int .i64 y.members]); (· exact rfl); (· exact rfl); (· intro w' hw'; refine pcs_cell (x := y) (hw'.rd_of_own memZ) hly ?_; (· simp; done))); (· exact rfl))|refine kv' ?_|apply jJ|refine jE' ?_|refine jp' ?_|(apply jc;kernel_rfl)|refine kg' ?_|refine kG' ?_|refine kB' fun _=>?_|refine kA' fun _=>?_|refine kK' fun _=>?_|refine kU' ?_|(apply idxX;(iterate 2 exact rfl);(iterate 2(first|omega|(dsimp only;omega)));exact rfl)|(apply addX;(iterate 2 exact rfl);(iterate 2(first|omega|(dsimp only;omega)));exact rfl)|(apply LR.qcall_val (g := 64) (cap := [.pointer (some ⟨bx, 0, none⟩)]) (v := .bool false); (· exact rfl); (· exact rfl); (· intro w1 h1; have hq := CallsTo.q (m64 y x bx w1 (h1.rd_of memZ)) h1; rw [decide_eq_false hx] at hq; exact hq))|((first|refine kR' ?_ ?_|refine kQ' ?_ ?_);all_goals(intro hc;try simp only[hcs]at hc;try(exfalso;first|contradiction|omega))))
      refine LR.store_obj (v := y.val) rfl rfl (Sel.tail _ (Sel.tail _ (Sel.head _ _ _))) rfl (put_plc (l := D') y (k := i) (by omega) (by omega)) (osl.dep _ _ _ _ _) ?_
      repeat'(first|refine kv' ?_|apply jJ|refine jE' ?_|refine jp' ?_|(apply jc;kernel_rfl)|refine kg' ?_|refine kG' ?_|refine kB' fun _=>?_|refine kA' fun _=>?_|refine kK' fun _=>?_|refine kU' ?_|(apply addX;(iterate 2 exact rfl);(iterate 2(first|omega|(dsimp only;omega)));exact rfl)|((first|refine kR' ?_ ?_|refine kQ' ?_ ?_);all_goals(intro hc;try simp only[hcs]at hc;try(exfalso;first|contradiction|omega))))
      refine At.again (j + 1, i + 1, D'.set i y) hkeep ?_ ⟨?_, rfl, trivial⟩ (fun w' hw' => hw'.sub subZ) (by show D.length - (j + 1) < D.length - j; omega)
      · (repeat (first | exact Out.refl _ _ | exact Out.mix | (apply Out.upd; (· exact rfl)) | (apply Out.updL; (· exact rfl)) | (apply Out.mixs; (· exact rfl))))
      · exact congrArg (Value.int .i64) (show (i : Int) + 1 = ((i + 1 : Nat) : Int) by omega)
  have hje : j = D.length := by omega
  subst hje
  have hpre := hI.pre
  rw [List.take_length] at hpre
  have hil : i = (noP D x.ring).length := by
    have := congrArg List.length hpre
    rw [List.length_take] at this
    omega
  have hsl : Value.slice (subA (some ⟨ba, oa, none⟩) c i 4) (D.length - i) (c - i) = Value.slice (subA (some ⟨ba, oa, none⟩) c i 4) (D.length - i) (c - i) := rfl
  repeat'(first|refine kv' ?_|apply jJ|refine jE' ?_|refine jp' ?_|(apply jc;kernel_rfl)|refine kg' ?_|refine kG' ?_|refine kB' fun _=>?_|refine kA' fun _=>?_|refine kK' fun _=>?_|refine kU' ?_|(apply LR.ev; (· apply Ev.slice_lo; (· exact rfl); (· exact rfl); (· omega); (· omega)); (· exact rfl))|((first|refine kR' ?_ ?_|refine kQ' ?_ ?_);all_goals(intro hc;try simp only[hcs]at hc;try(exfalso;first|contradiction|omega))))
  refine LR.clearN (E := 44) (sz := 4) (zs := [.int .i64 0, .int .i64 0, .int .i64 0, .int .i64 0]) (n := D.length) (c := c) (j := i) (a := some ⟨ba, oa, none⟩) (xs := pcs D') rfl rfl rfl (Sel.tail _ (Sel.head _ _ _)) (by omega) ?_
  repeat'(first|refine kv' ?_|apply jJ|refine jE' ?_|refine jp' ?_|(apply jc;kernel_rfl)|refine kg' ?_|refine kG' ?_|refine kB' fun _=>?_|refine kA' fun _=>?_|refine kK' fun _=>?_|refine kU' ?_|(apply LR.ev; (· apply Ev.slice_hi; (· exact rfl); (· exact rfl); (· omega); (· omega)); (· exact rfl))|((first|refine kR' ?_ ?_|refine kQ' ?_ ?_);all_goals(intro hc;try simp only[hcs]at hc;try(exfalso;first|contradiction|omega))))
  (apply ret1; (· exact rfl); intro w' hS)
  have h2 := St.osl_cut (k := i) hS (Sel.tail _ (Sel.head _ _ _)) (by omega)
  have h3 : ((pcs D').take (i * 4) ++ (List.replicate (D.length - i) [Value.int .i64 0, .int .i64 0, .int .i64 0, .int .i64 0]).flatten).take (i * 4) = pcs (noP D x.ring) := by
    rw [pcs_take D' i (by omega), hpre, List.take_append_of_le_length (by rw [pcs_length]; omega), List.take_of_length_le (by rw [pcs_length]; omega)]
  rw [h3] at h2
  subst hF
  rw [← hil]
  refine ⟨?_, (h2.sub (L' := [pN (some ⟨ba, oa, none⟩) i c (noP D x.ring)]) subZ).step rfl⟩
  show Value.slice (subA (some ⟨ba, oa, none⟩) c 0 4) (i : Int).toNat c = _
  rw [subA0]
  rfl
end Go.Proofs.Ytgblmkpfkcibiaa

namespace Go.Proofs.Ytgblmkpfkcibiaa
open Go.Hb
attribute [local irreducible] LR CW At Ev thn blk finK noG again CallsTo DW QL dnext TW DP gpost
set_option maxRecDepth 100000

theorem lrn_yes {K : List Plc} {x : Plc} (h : takesP K x = true) : lrnL K x = noP K x.ring ++ [x] := by
  unfold lrnL noP
  rw [h]
  congr 1
theorem lrn_no {K : List Plc} {x : Plc} (h : takesP K x = false) : lrnL K x = K := by
  unfold lrnL
  rw [h, if_neg (by simp), List.append_nil, List.filter_eq_self]
  intro y _
  rfl
theorem lrnL_len (K : List Plc) (x : Plc) : (lrnL K x).length ≤ K.length + 1 := by
  cases h : takesP K x with
  | true => rw [lrn_yes h, List.length_append]; have := noP_len K x.ring; simp; omega
  | false => rw [lrn_no h]; omega
set_option maxHeartbeats 2000000 in
theorem m27 {N : Nat} (hN : SortTo N) (K : List Plc) (a : Option Addr) (c : Nat) (x : Plc) (w : World) (hk : Rd w a (pcs K)) (hz : a = none → c = 0) (hm : (K.length + 1) * 32 ≤ 140737488355328) (hKN : K.length + 1 ≤ N) (hxm : i64P x.members) :
    CallsTo Try.prog 27 [.slice a K.length c, x.val] w fun v w' => plR w w' v (lrnP K x) := by
  refine go_in (n := 66) (St.rd1 hk) Try.func27 rfl rfl ?_
  rw [plc_val]
  repeat'(first|(refine kB' fun bx => ?_)|refine kv' ?_|apply jJ|refine jE' ?_|refine jp' ?_|(apply jc;kernel_rfl)|refine kg' ?_|refine kG' ?_|refine kB' fun _=>?_|refine kA' fun _=>?_|refine kK' fun _=>?_|refine kU' ?_|(apply kq; (· exact rfl); (· intro w1 h1; first | exact CallsTo.q (show CallsTo Try.prog 60 [.agg [.int .i64 x.seq, .int .i64 x.rep].toArray] w1 _ from c81 x.seq x.rep w1) h1 | exact CallsTo.q (m61 x.members w1 hxm) h1))|((first|refine kR' ?_ ?_|refine kQ' ?_ ?_);all_goals(intro hc;try simp only[hcs]at hc;try(exfalso;first|contradiction|omega))))
  all_goals (
    apply CW.loop [5, 7, 36, 37, 38, 39, 40, 41, 42, 43, 44, 45, 46, 47, 48, 49, 50, 51, 52, 53] (fun i : Nat => i ≤ K.length) (fun i => [(5, .bool (mayP x && !anyR (K.take i) x)), (36, .int .i64 (i : Int))])
      (fun _ => St w NoF [.own bx (.cells [Value.int .i64 x.ring, .int .i64 x.seq, .int .i64 x.rep, .int .i64 x.members].toArray 44 (0, 0)), rdA a (pcs K)]) (fun i => K.length - i)
    · refine fun w' hw' => ⟨0, by omega, ⟨?_, rfl, trivial⟩, hw'⟩
      refine congrArg Value.bool ?_
      simp only [List.take_zero]
      rw [show anyR [] x = false from rfl]
      unfold mayP
      clear hw' hk
      first | (simp_all; done) | (simp_all; omega)
    intro i g hi
    by_cases hlt : i < K.length
    · obtain ⟨ba, oa, rfl⟩ := hk.form (fun e => by have h1 := congrArg List.length e; rw [pcs_length, List.length_nil] at h1; omega)
      obtain ⟨y, hy⟩ : ∃ y, K[i] = y := ⟨_, rfl⟩
      have hly : K[i]? = some y := by rw [List.getElem?_eq_getElem hlt, hy]
      have hat : anyR (K.take (i + 1)) x = (anyR (K.take i) x || (decide (y.ring = x.ring) && decide (0 ≤ ringsM y.seq y.rep x.seq x.rep))) := by
        unfold anyR
        rw [any_take K _ hlt, hy]
      generalize anyR (K.take i) x = tk at hat ⊢
      repeat'(first|(apply LR.ev; (· apply Ev.load_agg_at (cs := [Value.int .i64 y.ring, .int .i64 y.seq, .int .i64 y.rep, .int .i64 y.members]); (· exact rfl); (· exact rfl); (· intro w' hw'; refine pcs_cell (x := y) (hw'.rd_of memZ) hly ?_; (· simp; done))); (· exact rfl))|refine kv' ?_|apply jJ|refine jE' ?_|refine jp' ?_|(apply jc;kernel_rfl)|refine kg' ?_|refine kG' ?_|refine kB' fun _=>?_|refine kA' fun _=>?_|refine kK' fun _=>?_|refine kU' ?_|(apply idxX;(iterate 2 exact rfl);(iterate 2(first|omega|(dsimp only;omega)));exact rfl)|(apply kq; (· exact rfl); (· intro w1 h1; exact CallsTo.q (m32 y.seq y.rep x.seq x.rep w1) h1))|(apply addX;(iterate 2 exact rfl);(iterate 2(first|omega|(dsimp only;omega)));exact rfl)|((first|refine kR' ?_ ?_|refine kQ' ?_ ?_);all_goals(intro hc;try simp only[hcs]at hc;try(exfalso;first|contradiction|omega))))
      all_goals (
        refine At.again (i + 1) (by omega) ?_ ⟨?_, rfl, trivial⟩ (fun w' hw' => hw'.sub subZ) (by omega)
        · (repeat (first | exact Out.refl _ _ | exact Out.mix | (apply Out.upd; (· exact rfl)) | (apply Out.updL; (· exact rfl)) | (apply Out.mixs; (· exact rfl))))
        · rw [hat]
          first
            | (have h1 : 0 ≤ ringsM y.seq y.rep x.seq x.rep := by assumption
               rw [decide_eq_true h1, decide_eq_true (show y.ring = x.ring by assumption), Bool.and_self, Bool.or_true, Bool.not_true, Bool.and_false]
               rfl)
            | (rw [decide_eq_false (show ¬ y.ring = x.ring by assumption), Bool.false_and, Bool.or_false]; rfl)
            | (rw [decide_eq_false (show ¬ 0 ≤ ringsM y.seq y.rep x.seq x.rep by omega), Bool.and_false, Bool.or_false]; rfl))
    have hie : i = K.length := by omega
    subst hie
    rw [List.take_length]
    show CW _ _ _ _ (updL (mix _ _ _) [(5, Value.bool (takesP K x)), (36, _)]) _
    have hll := lrnL_len K x
    repeat'(first|refine kv' ?_|apply jJ|refine jE' ?_|refine jp' ?_|(apply jc;kernel_rfl)|refine kg' ?_|refine kG' ?_|refine kB' fun _=>?_|refine kA' fun _=>?_|refine kK' fun _=>?_|refine kU' ?_|((first|refine kR' ?_ ?_|refine kQ' ?_ ?_);all_goals(intro hc;try simp only[hcs]at hc;try(exfalso;first|contradiction|omega))))
    apply LR.call
    · exact rfl
    intro w1 h1
    refine (m62 K a c w1 (h1.rd_of memZ) hz (by omega)).mono ?_
    rintro v w2 ⟨a2, c2, rfl, hn⟩
    refine LR.back (h1.newSl hn) ?_
    clear hn h1
    cases htk : takesP K x with
    | false =>
      have hle := lrn_no htk
      unfold lrnP
      rw [hle]
      repeat'(first|refine kv' ?_|apply jJ|refine jE' ?_|refine jp' ?_|(apply jc;kernel_rfl)|refine kg' ?_|refine kG' ?_|refine kB' fun _=>?_|refine kA' fun _=>?_|refine kK' fun _=>?_|refine kU' ?_|((first|refine kR' ?_ ?_|refine kQ' ?_ ?_);all_goals(intro hc;try simp only[hcs]at hc;try(exfalso;first|contradiction|omega))))
      apply LR.call
      · exact rfl
      intro w1 h1
      refine CallsTo.mono (show CallsTo Try.prog 56 [.slice a2 K.length c2] w1 _ from hN a2 c2 K w1 (h1.holds (pN a2 K.length c2 K) memZ) (by omega)) ?_
      rintro v w2 ⟨rfl, st⟩
      refine LR.back (h1.did selZ rfl st (osl.dep _ _ _ _ _)) ?_
      clear st h1
      repeat'(first|refine kv' ?_|apply jJ|refine jE' ?_|refine jp' ?_|(apply jc;kernel_rfl)|refine kg' ?_|refine kG' ?_|refine kB' fun _=>?_|refine kA' fun _=>?_|refine kK' fun _=>?_|refine kU' ?_|((first|refine kR' ?_ ?_|refine kQ' ?_ ?_);all_goals(intro hc;try simp only[hcs]at hc;try(exfalso;first|contradiction|omega))))
      (apply ret1; (· exact rfl); intro w' hS)
      have h9 : pN a2 K.length c2 (isP K) = osl (.slice a2 (isP K).length c2) 44 4 (isP K).length (pcs (isP K)) := by rw [isP_len]
      rw [h9] at hS
      refine ⟨a2, c2, ?_, hS.toNew memZ⟩
      rw [isP_len]
      rfl
    | true =>
      have hle := lrn_yes htk
      unfold lrnP
      rw [hle] at hll ⊢
      rw [List.length_append] at hll
      have hnl := noP_len K x.ring
      repeat'(first|(apply LR.ev (v := Value.func (.func 64) #[] #[.pointer (some ⟨bx, 0, none⟩)]); (· exact Ev.makeFunc (xs := []) (ys := [.tmp 3])); (· exact rfl))|refine kv' ?_|apply jJ|refine jE' ?_|refine jp' ?_|(apply jc;kernel_rfl)|refine kg' ?_|refine kG' ?_|refine kB' fun _=>?_|refine kA' fun _=>?_|refine kK' fun _=>?_|refine kU' ?_|((first|refine kR' ?_ ?_|refine kQ' ?_ ?_);all_goals(intro hc;try simp only[hcs]at hc;try(exfalso;first|contradiction|omega))))
      apply LR.call
      · exact rfl
      intro w1 h1
      have hap := fun z => St.apart (x := pN a2 K.length c2 K) (y := .own bx (.cells [Value.int .i64 x.ring, .int .i64 x.seq, .int .i64 x.rep, .int .i64 x.members].toArray 44 (0, 0))) (h1.sub (L' := [pN a2 K.length c2 K, .own bx (.cells [Value.int .i64 x.ring, .int .i64 x.seq, .int .i64 x.rep, .int .i64 x.members].toArray 44 (0, 0))]) subZ) memZ rfl z
      refine CallsTo.mono (show CallsTo Try.prog 63 [.slice a2 K.length c2, .func (.func 64) #[] #[.pointer (some ⟨bx, 0, none⟩)]] w1 _ from m63 a2 c2 K x bx w1 (h1.holds (pN a2 K.length c2 K) memZ) (h1.rd_of_blk memZ) (fun z hz hf => by
        obtain ⟨_, ad, e, hz'⟩ := hz
        cases e
        exact hap z hf hz') (by omega)) ?_
      rintro v w2 ⟨rfl, st⟩
      refine LR.back (h1.did selZ rfl st (osl.dep _ _ _ _ _)) ?_
      clear st h1 hap
      generalize noP K x.ring = O at hll hnl ⊢
      repeat'(first|(apply Go.Hb.kK;(iterate 4 exact rfl);intro bs)|refine kv' ?_|apply jJ|refine jE' ?_|refine jp' ?_|(apply jc;kernel_rfl)|refine kg' ?_|refine kG' ?_|refine kB' fun _=>?_|refine kA' fun _=>?_|refine kK' fun _=>?_|refine kU' ?_|(apply LR.append (xs := pcs O) (news := x.cells) (m := 1); (· exact rfl); (· exact rfl); (· intro a' c'; (repeat (first | exact sH _ _ _ | apply sT))); (· exact fun w' hw' => hw'.rd_of_blk (mH _ _)); (· exact fun hx => by cases hx); (· exact rfl); (· exact rfl); (· omega); (· unfold maxLen; omega); (· exact rfl); (intro a3 c3))|((first|refine kR' ?_ ?_|refine kQ' ?_ ?_);all_goals(intro hc;try simp only[hcs]at hc;try(exfalso;first|contradiction|omega))))
      apply LR.call
      · exact rfl
      intro w1 h1
      have hsn : osl (.slice a3 (O.length + 1) c3) 44 4 (O.length + 1) (pcs O ++ x.cells) = pN a3 (O ++ [x]).length c3 (O ++ [x]) := pN_snoc.symm
      rw [hsn] at h1
      have hxl : (O ++ [x]).length = O.length + 1 := by simp
      rw [← hxl]
      refine CallsTo.mono (show CallsTo Try.prog 56 [.slice a3 (O ++ [x]).length c3] w1 _ from hN a3 c3 (O ++ [x]) w1 (h1.holds (pN a3 (O ++ [x]).length c3 (O ++ [x])) memZ) (by omega)) ?_
      rintro v w2 ⟨rfl, st⟩
      refine LR.back (h1.did selZ rfl st (osl.dep _ _ _ _ _)) ?_
      clear st h1
      repeat'(first|refine kv' ?_|apply jJ|refine jE' ?_|refine jp' ?_|(apply jc;kernel_rfl)|refine kg' ?_|refine kG' ?_|refine kB' fun _=>?_|refine kA' fun _=>?_|refine kK' fun _=>?_|refine kU' ?_|((first|refine kR' ?_ ?_|refine kQ' ?_ ?_);all_goals(intro hc;try simp only[hcs]at hc;try(exfalso;first|contradiction|omega))))
      (apply ret1; (· exact rfl); intro w' hS)
      have h9 : pN a3 (O ++ [x]).length c3 (isP (O ++ [x])) = osl (.slice a3 (isP (O ++ [x])).length c3) 44 4 (isP (O ++ [x])).length (pcs (isP (O ++ [x]))) := by rw [isP_len]
      rw [h9] at hS
      refine ⟨a3, c3, ?_, hS.toNew memZ⟩
      rw [isP_len]
      rfl)
end Go.Proofs.Ytgblmkpfkcibiaa

namespace Go.Proofs.Ytgblmkpfkcibiaa
open Go.Hb
attribute [local irreducible] LR CW At Ev thn blk finK noG again CallsTo DW QL dnext TW DP gpost
set_option maxRecDepth 100000

instance : DecidableEq Plc := fun a b =>
  if h : a.ring = b.ring ∧ a.seq = b.seq ∧ a.rep = b.rep ∧ a.members = b.members then isTrue (by cases a; cases b; simp_all)
  else isFalse (fun e => h (by subst e; exact ⟨rfl, rfl, rfl, rfl⟩))
theorem plc_eq (a b : Plc) : decide ([a.ring, a.seq, a.rep, a.members] = [b.ring, b.seq, b.rep, b.members]) = decide (a = b) := by
  rw [decide_eq_decide]
  cases a; cases b; simp
set_option maxHeartbeats 1000000 in
theorem m25 (a b : Option Addr) (ca cb : Nat) (la lb : List Plc) (w : World) (ha : Rd w a (pcs la)) (hb : Rd w b (pcs lb)) (hm : la.length ≤ 17592186043904) :
    CallsTo Try.prog 25 [.slice a la.length ca, .slice b lb.length cb] w fun v w' => v = .bool (decide (la = lb)) ∧ Grew w w' := by
  refine go_in (n := 26) (St.rd2 ha hb) Try.func25 rfl rfl ?_
  by_cases hl : la.length = lb.length
  rotate_left
  · repeat'(first|refine kv' ?_|apply jJ|refine jE' ?_|refine jp' ?_|(apply jc;kernel_rfl)|refine kg' ?_|refine kG' ?_|refine kB' fun _=>?_|refine kA' fun _=>?_|refine kK' fun _=>?_|refine kU' ?_|((first|refine kR' ?_ ?_|refine kQ' ?_ ?_);all_goals(intro hc;try simp only[hcs]at hc;try(exfalso;first|contradiction|omega))))
    (apply ret1; (· exact rfl); intro w' hS)
    refine ⟨congrArg Value.bool ?_, hS.toKeep⟩
    have : la ≠ lb := fun e => hl (by rw [e])
    simp [this]
  repeat'(first|refine kv' ?_|apply jJ|refine jE' ?_|refine jp' ?_|(apply jc;kernel_rfl)|refine kg' ?_|refine kG' ?_|refine kB' fun _=>?_|refine kA' fun _=>?_|refine kK' fun _=>?_|refine kU' ?_|((first|refine kR' ?_ ?_|refine kQ' ?_ ?_);all_goals(intro hc;try simp only[hcs]at hc;try(exfalso;first|contradiction|omega))))
  apply CW.loop [4, 5, 11, 12, 13, 14, 15, 16, 17, 18, 19, 20, 21, 22, 23, 24, 25] (fun i : Nat => i ≤ la.length ∧ la.take i = lb.take i) (fun i : Nat => [(5, Value.int .i64 i)]) (fun i => St w NoF [rdA a (pcs la), rdA b (pcs lb)]) (fun i => la.length - i)
  · exact fun w' hw' => ⟨0, ⟨by omega, by simp⟩, ⟨rfl, trivial⟩, hw'⟩
  intro i g ⟨hi, heq⟩
  by_cases hlt : i < la.length
  · obtain ⟨ba, oa, rfl⟩ := ha.form (fun e => by have h1 := congrArg List.length e; rw [pcs_length, List.length_nil] at h1; omega)
    obtain ⟨bb, ob, rfl⟩ := hb.form (fun e => by have h1 := congrArg List.length e; rw [pcs_length, List.length_nil] at h1; omega)
    have hlb : i < lb.length := by omega
    obtain ⟨x, hx⟩ : ∃ x, la[i] = x := ⟨_, rfl⟩
    obtain ⟨y, hy⟩ : ∃ y, lb[i] = y := ⟨_, rfl⟩
    have hlx : la[i]? = some x := by rw [List.getElem?_eq_getElem hlt, hx]
    have hly : lb[i]? = some y := by rw [List.getElem?_eq_getElem hlb, hy]
    have hpe := plc_eq x y
    repeat'(first|(apply LR.ev; (· apply Ev.load_agg_at (cs := [Value.int .i64 x.ring, .int .i64 x.seq, .int .i64 x.rep, .int .i64 x.members]); (· exact rfl); (· exact rfl); (· intro w' hw'; refine pcs_cell (x := x) (hw'.rd_of (mH _ _)) hlx ?_; (· simp; done))); (· exact rfl))|(apply LR.ev; (· apply Ev.load_agg_at (cs := [Value.int .i64 y.ring, .int .i64 y.seq, .int .i64 y.rep, .int .i64 y.members]); (· exact rfl); (· exact rfl); (· intro w' hw'; refine pcs_cell (x := y) (hw'.rd_of (mT _ (mH _ _))) hly ?_; (· simp; done))); (· exact rfl))|refine kv' ?_|apply jJ|refine jE' ?_|refine jp' ?_|(apply jc;kernel_rfl)|refine kg' ?_|refine kG' ?_|refine kB' fun _=>?_|refine kA' fun _=>?_|refine kK' fun _=>?_|refine kU' ?_|(apply idxX;(iterate 2 exact rfl);(iterate 2(first|omega|(dsimp only;omega)));exact rfl)|(apply addX;(iterate 2 exact rfl);(iterate 2(first|omega|(dsimp only;omega)));exact rfl)|((first|refine kR' ?_ ?_|refine kQ' ?_ ?_);all_goals(intro hc;try simp only[hcs]at hc;try(exfalso;first|contradiction|omega))))
    · (apply ret1; (· exact rfl); intro w' hS)
      refine ⟨congrArg Value.bool ?_, hS.toKeep⟩
      have : la ≠ lb := fun e => by
        subst e
        rw [hlx] at hly
        cases hly
        simp_all
      simp [this]
    · refine At.again (i + 1) ⟨by omega, ?_⟩ ?_ ⟨rfl, trivial⟩ (fun w' hw' => hw') (by omega)
      · have hxy : x = y := by cases x; cases y; simp_all
        rw [List.take_add_one, List.take_add_one, hlx, hly, heq, hxy]
      · (repeat (first | exact Out.refl _ _ | exact Out.mix | (apply Out.upd; (· exact rfl)) | (apply Out.updL; (· exact rfl)) | (apply Out.mixs; (· exact rfl))))
  · have hie : i = la.length := by omega
    subst hie
    repeat'(first|refine kv' ?_|apply jJ|refine jE' ?_|refine jp' ?_|(apply jc;kernel_rfl)|refine kg' ?_|refine kG' ?_|refine kB' fun _=>?_|refine kA' fun _=>?_|refine kK' fun _=>?_|refine kU' ?_|((first|refine kR' ?_ ?_|refine kQ' ?_ ?_);all_goals(intro hc;try simp only[hcs]at hc;try(exfalso;first|contradiction|omega))))
    (apply ret1; (· exact rfl); intro w' hS)
    refine ⟨congrArg Value.bool ?_, hS.toKeep⟩
    rw [List.take_length, hl, List.take_length] at heq
    simp [heq]
def threeP : Pln := ⟨[14, 56, 96], [⟨3, 0, 1⟩, ⟨5, 1, 2⟩]⟩
def threeA (b1 b2 : Nat) : PlA := ⟨some ⟨b1, 0, none⟩, 3, some ⟨b2, 0, none⟩, 2⟩
abbrev thr1 (b1 : Nat) : Asrt := .own b1 (.cells (iv [14, 56, 96]).toArray 3 (0, 0))
abbrev thr2 (b2 : Nat) : Asrt := .own b2 (.cells (gv [⟨3, 0, 1⟩, ⟨5, 1, 2⟩]).toArray 34 (0, 0))
theorem m33 (w : World) : CallsTo Try.prog 33 [] w fun v w' => ∃ b1 b2, v = threeP.val (threeA b1 b2) ∧ New1 (both (thr1 b1) (thr2 b2)) w w' := by
  refine go_in (n := 6) (St.refl _ NoF) Try.func33 rfl rfl ?_
  repeat'(first|(refine kK' (T := 22) fun b1 => ?_)|(refine kK' (T := 23) fun b2 => ?_)|refine kv' ?_|apply jJ|refine jE' ?_|refine jp' ?_|(apply jc;kernel_rfl)|refine kg' ?_|refine kG' ?_|refine kB' fun _=>?_|refine kA' fun _=>?_|refine kK' fun _=>?_|refine kU' ?_|((first|refine kR' ?_ ?_|refine kQ' ?_ ?_);all_goals(intro hc;try simp only[hcs]at hc;try(exfalso;first|contradiction|omega))))
  (apply ret1c; (· exact rfl); (· exact inferInstance); (· exact rfl); (· (repeat (first | exact List.Mem.head _ | apply List.Mem.tail))); (· exact rfl); intro w' hS)
  refine ⟨b1, b2, rfl, ?_⟩
  have h1 : St w NoF [thr1 b1, thr2 b2] w' := (hS.sub (L' := [thr2 b2, thr1 b1]) subZ).swap
  exact (h1.join rfl rfl).new1 rfl
def plcA (ring members : Int) : Plc := ⟨ring, 1 + ring, 1, members⟩
theorem m34 (ring members : Int) (w : World) (h : -1000 ≤ ring ∧ ring ≤ 1000) : CallsTo Try.prog 34 [.int .i64 ring, .int .i64 members] w fun v w' => v = (plcA ring members).val ∧ Grew w w' := by
  refine go_in (n := 11) (St.refl _ NoF) Try.func34 rfl rfl ?_
  repeat'(first|refine kv' ?_|apply jJ|refine jE' ?_|refine jp' ?_|(apply jc;kernel_rfl)|refine kg' ?_|refine kG' ?_|refine kB' fun _=>?_|refine kA' fun _=>?_|refine kK' fun _=>?_|refine kU' ?_|(apply addX;(iterate 2 exact rfl);(iterate 2(first|omega|(dsimp only;omega)));exact rfl)|((first|refine kR' ?_ ?_|refine kQ' ?_ ?_);all_goals(intro hc;try simp only[hcs]at hc;try(exfalso;first|contradiction|omega))))
  (apply ret1c; (· exact rfl); (· exact inferInstance); (· exact rfl); (· (repeat (first | exact List.Mem.head _ | apply List.Mem.tail))); (· exact rfl); intro w' hS)
  exact ⟨rfl, hS.toKeep⟩
theorem own_rdM {b : Nat} {cs : List Value} {E : Nat} {w : World} (h : (Asrt.own b (.cells cs.toArray E (0, 0))).holds w) : Rd w (some ⟨b, 0, none⟩) cs := fun j v hj => ⟨_, rfl, by rw [addr_add, cell_own h]; simpa using hj⟩
theorem threeI : PlI threeP := ⟨by decide, by decide, by decide⟩
theorem thR {w : World} {b1 b2 : Nat} (h : (both (thr1 b1) (thr2 b2)).holds w) : PlR w threeP (threeA b1 b2) := ⟨own_rdM h.1, own_rdM h.2.1⟩
theorem th_dep {b1 b2 : Nat} : (both (thr1 b1) (thr2 b2)).dep := both_dep (Asrt.dep_own _ _) (Asrt.dep_own _ _)
section
variable {P : Program} {C : World → Prop} {f : Frm} {T T' E : TypeId} {x y : Operand} {sz by_ b o k c : Nat} {q : IntKind} {j : Int}
theorem Ev_hi [h : SliceOf P T E sz by_] (hx : f.ev x = .slice (some ⟨b, o, none⟩) k c) (hy : f.ev y = .int q j) (h0 : 0 ≤ j) (h1 : j ≤ c) : Ev P C f (.slice T x none (some y) none) T' (.slice (some ⟨b, o, none⟩) j.toNat c) := by
  have := Ev.slice_hi (C := C) (T := T) (T' := T') (h := h) hx hy h0 h1
  rwa [subA0] at this
theorem Ev_lo [h : SliceOf P T E sz by_] (hx : f.ev x = .slice (some ⟨b, o, none⟩) k c) (hy : f.ev y = .int q j) (h0 : 0 ≤ j) (h1 : j ≤ k) (h2 : ¬ c = j.toNat) : Ev P C f (.slice T x (some y) none none) T' (.slice (some ⟨b, o + j.toNat * sz, none⟩) (k - j.toNat) (c - j.toNat)) := by
  have := Ev.slice_lo (C := C) (T := T) (T' := T') (h := h) hx hy h0 h1
  unfold subA at this
  rw [if_neg h2] at this
  simpa [addr_add] using this
end
def knownW : List Plc := [plcA 0 14, plcA 1 24, plcA 2 96]
theorem w_chk : chkP threeP.R threeP.G = true := by decide +kernel
theorem w_far : farT threeP.R threeP.G 3 0 = some 1 := by decide +kernel
theorem w_sides : sidesT threeP.R threeP.G 3 = [0, 1] := by decide +kernel
theorem w_gws : gwsT threeP.R threeP.G 1 = [3, 5] := by decide +kernel
theorem w_view0 : viewP (threeP.R, threeP.G) 0 knownW = [plcA 0 14, plcA 1 24] := by decide +kernel
theorem w_view2 : viewP (threeP.R, threeP.G) 2 knownW = [plcA 2 96] := by decide +kernel
theorem w_lrn : lrnP [] (plcA 1 24) = [plcA 1 24] := by decide +kernel
theorem rd_from8 {w : World} {b : Nat} (h : Rd w (some ⟨b, 0, none⟩) (pcs knownW)) : Rd w (some ⟨b, 8, none⟩) (pcs [plcA 2 96]) := by
  intro j v hj
  have h2 := h.cell (j := 8 + j) (v := v) (by rw [show pcs knownW = pcs [plcA 0 14, plcA 1 24] ++ pcs [plcA 2 96] from rfl, List.getElem?_append_right (by show 8 ≤ 8 + j; omega), show 8 + j - (pcs [plcA 0 14, plcA 1 24]).length = j by show 8 + j - 8 = j; omega]; exact hj)
  exact ⟨_, rfl, by rw [addr_add]; rwa [Nat.zero_add] at h2⟩
set_option maxHeartbeats 4000000 in
theorem m22 (w : World) : CallsTo Try.prog 22 [] w fun v w' => v = .bool true ∧ Grew w w' := by
  refine go_in (n := 57) (St.refl _ NoF) Try.func22 rfl rfl ?_
  repeat'(first|(apply CW.reg_heldC)|(refine kK' (T := 37) fun bk => ?_)|refine kv' ?_|apply jJ|refine jE' ?_|refine jp' ?_|(apply jc;kernel_rfl)|refine kg' ?_|refine kG' ?_|refine kB' fun _=>?_|refine kA' fun _=>?_|refine kK' fun _=>?_|refine kU' ?_|(apply kq; (· exact rfl); (· intro w1 h1; first | (have hq := CallsTo.q (m13 threeP (threeA b1 b2) w1 (thR (h1.holds (both (thr1 b1) (thr2 b2)) memZ)) threeI) h1; rw [w_chk] at hq; exact hq) | (have hq := CallsTo.q (m15 threeP (threeA b1 b2) 3 0 w1 (thR (h1.holds (both (thr1 b1) (thr2 b2)) memZ)) threeI) h1; rw [w_far] at hq; exact hq) | exact CallsTo.q (m34 0 14 w1 (by decide)) h1 | exact CallsTo.q (m34 1 24 w1 (by decide)) h1 | exact CallsTo.q (m34 2 96 w1 (by decide)) h1 | exact CallsTo.q (show CallsTo Try.prog 17 [.slice a7 2 c7, .slice _ 2 2] w1 _ from t19 a7 _ c7 2 [0, 1] [0, 1] w1 (h1.rd_of_own memZ) (h1.rd_of_blk memZ) (by decide)) h1 | exact CallsTo.q (show CallsTo Try.prog 17 [.slice a8 2 c8, .slice _ 2 2] w1 _ from t19 a8 _ c8 2 [3, 5] [3, 5] w1 (h1.rd_of_own memZ) (h1.rd_of_blk memZ) (by decide)) h1 | exact CallsTo.q (show CallsTo Try.prog 25 [.slice a9 2 c9, .slice (some ⟨bk, 0, none⟩) 2 3] w1 _ from m25 a9 (some ⟨bk, 0, none⟩) c9 3 [plcA 0 14, plcA 1 24] [plcA 0 14, plcA 1 24] w1 (h1.rd_of_own memZ) (Rd.take 8 (h1.rd_of_blk (b := bk) (cs := pcs knownW) memZ)) (by decide)) h1 | exact CallsTo.q (show CallsTo Try.prog 25 [.slice a9 1 c9, .slice (some ⟨bk, 8, none⟩) 1 1] w1 _ from m25 a9 (some ⟨bk, 8, none⟩) c9 1 [plcA 2 96] [plcA 2 96] w1 (h1.rd_of_own memZ) (rd_from8 (h1.rd_of_blk (b := bk) (cs := pcs knownW) memZ)) (by decide)) h1))|(apply LR.call; (· exact rfl); (intro w1 h1; first | (refine CallsTo.mono (show CallsTo Try.prog 33 [] w1 _ from m33 w1) ?_; rintro v w2 ⟨b1, b2, rfl, hn⟩; refine LR.back (h1.got hn th_dep) ?_; clear hn h1) | (refine CallsTo.mono (show CallsTo Try.prog 18 [threeP.val (threeA b1 b2), .int .i64 3] w1 _ from m18 threeP (threeA b1 b2) 3 w1 (thR (h1.holds (both (thr1 b1) (thr2 b2)) memZ)) threeI) ?_; rintro v w2 ⟨a7, c7, rfl, hn⟩; rw [w_sides] at hn ⊢; refine LR.back (h1.newSl hn) ?_; clear hn h1) | (refine CallsTo.mono (show CallsTo Try.prog 20 [threeP.val (threeA b1 b2), .int .i64 1] w1 _ from m20 threeP (threeA b1 b2) 1 w1 (thR (h1.holds (both (thr1 b1) (thr2 b2)) memZ)) threeI) ?_; rintro v w2 ⟨a8, c8, rfl, hn⟩; rw [w_gws] at hn ⊢; refine LR.back (h1.newSl hn) ?_; clear hn h1) | (refine CallsTo.mono (show CallsTo Try.prog 24 [threeP.val (threeA b1 b2), .int .i64 0, .slice (some ⟨bk, 0, none⟩) 3 3] w1 _ from m24 threeP (threeA b1 b2) threeI 0 knownW (some ⟨bk, 0, none⟩) 3 w1 (thR (h1.holds (both (thr1 b1) (thr2 b2)) memZ)) (h1.rd_of_blk memZ) (by decide)) ?_; rintro v w2 ⟨a9, c9, rfl, hn⟩; rw [w_view0] at hn ⊢; refine LR.back (h1.newSl hn) ?_; clear hn h1) | (refine CallsTo.mono (show CallsTo Try.prog 24 [threeP.val (threeA b1 b2), .int .i64 2, .slice (some ⟨bk, 0, none⟩) 3 3] w1 _ from m24 threeP (threeA b1 b2) threeI 2 knownW (some ⟨bk, 0, none⟩) 3 w1 (thR (h1.holds (both (thr1 b1) (thr2 b2)) memZ)) (h1.rd_of_blk memZ) (by decide)) ?_; rintro v w2 ⟨a9, c9, rfl, hn⟩; rw [w_view2] at hn ⊢; refine LR.back (h1.newSl hn) ?_; clear hn h1) | (refine CallsTo.mono (show CallsTo Try.prog 27 [.slice none 0 0, (plcA 1 24).val] w1 _ from m27 sort_few [] none 0 (plcA 1 24) w1 (Rd.nil _ _) (fun _ => rfl) (by decide) (by decide) (by decide)) ?_; rintro v w2 ⟨a10, c10, rfl, hn⟩; rw [w_lrn] at hn ⊢; refine LR.back (h1.newSl hn) ?_; clear hn h1)))|((first|refine kR' ?_ ?_|refine kQ' ?_ ?_);all_goals(intro hc;try simp only[hcs]at hc;try(exfalso;first|contradiction|omega))))
  all_goals (
    apply DW.loud 0
    · exact rfl
    · decide +kernel
    repeat'(first|refine kg' ?_|refine kG' ?_|apply kM|refine kv' ?_|refine kK' fun _=>?_|refine kU' ?_|refine kB' fun _=>?_|refine kA' fun _=>?_|(apply kq; (· exact rfl); (· intro w1 h1; first | (have hq := CallsTo.q (m13 threeP (threeA b1 b2) w1 (thR (h1.holds (both (thr1 b1) (thr2 b2)) memZ)) threeI) h1; rw [w_chk] at hq; exact hq) | (have hq := CallsTo.q (m15 threeP (threeA b1 b2) 3 0 w1 (thR (h1.holds (both (thr1 b1) (thr2 b2)) memZ)) threeI) h1; rw [w_far] at hq; exact hq) | exact CallsTo.q (m34 0 14 w1 (by decide)) h1 | exact CallsTo.q (m34 1 24 w1 (by decide)) h1 | exact CallsTo.q (m34 2 96 w1 (by decide)) h1 | exact CallsTo.q (show CallsTo Try.prog 17 [.slice a7 2 c7, .slice _ 2 2] w1 _ from t19 a7 _ c7 2 [0, 1] [0, 1] w1 (h1.rd_of_own memZ) (h1.rd_of_blk memZ) (by decide)) h1 | exact CallsTo.q (show CallsTo Try.prog 17 [.slice a8 2 c8, .slice _ 2 2] w1 _ from t19 a8 _ c8 2 [3, 5] [3, 5] w1 (h1.rd_of_own memZ) (h1.rd_of_blk memZ) (by decide)) h1 | exact CallsTo.q (show CallsTo Try.prog 25 [.slice a9 2 c9, .slice (some ⟨bk, 0, none⟩) 2 3] w1 _ from m25 a9 (some ⟨bk, 0, none⟩) c9 3 [plcA 0 14, plcA 1 24] [plcA 0 14, plcA 1 24] w1 (h1.rd_of_own memZ) (Rd.take 8 (h1.rd_of_blk (b := bk) (cs := pcs knownW) memZ)) (by decide)) h1 | exact CallsTo.q (show CallsTo Try.prog 25 [.slice a9 1 c9, .slice (some ⟨bk, 8, none⟩) 1 1] w1 _ from m25 a9 (some ⟨bk, 8, none⟩) c9 1 [plcA 2 96] [plcA 2 96] w1 (h1.rd_of_own memZ) (rd_from8 (h1.rd_of_blk (b := bk) (cs := pcs knownW) memZ)) (by decide)) h1))|(apply LR.call; (· exact rfl); (intro w1 h1; first | (refine CallsTo.mono (show CallsTo Try.prog 33 [] w1 _ from m33 w1) ?_; rintro v w2 ⟨b1, b2, rfl, hn⟩; refine LR.back (h1.got hn th_dep) ?_; clear hn h1) | (refine CallsTo.mono (show CallsTo Try.prog 18 [threeP.val (threeA b1 b2), .int .i64 3] w1 _ from m18 threeP (threeA b1 b2) 3 w1 (thR (h1.holds (both (thr1 b1) (thr2 b2)) memZ)) threeI) ?_; rintro v w2 ⟨a7, c7, rfl, hn⟩; rw [w_sides] at hn ⊢; refine LR.back (h1.newSl hn) ?_; clear hn h1) | (refine CallsTo.mono (show CallsTo Try.prog 20 [threeP.val (threeA b1 b2), .int .i64 1] w1 _ from m20 threeP (threeA b1 b2) 1 w1 (thR (h1.holds (both (thr1 b1) (thr2 b2)) memZ)) threeI) ?_; rintro v w2 ⟨a8, c8, rfl, hn⟩; rw [w_gws] at hn ⊢; refine LR.back (h1.newSl hn) ?_; clear hn h1) | (refine CallsTo.mono (show CallsTo Try.prog 24 [threeP.val (threeA b1 b2), .int .i64 0, .slice (some ⟨bk, 0, none⟩) 3 3] w1 _ from m24 threeP (threeA b1 b2) threeI 0 knownW (some ⟨bk, 0, none⟩) 3 w1 (thR (h1.holds (both (thr1 b1) (thr2 b2)) memZ)) (h1.rd_of_blk memZ) (by decide)) ?_; rintro v w2 ⟨a9, c9, rfl, hn⟩; rw [w_view0] at hn ⊢; refine LR.back (h1.newSl hn) ?_; clear hn h1) | (refine CallsTo.mono (show CallsTo Try.prog 24 [threeP.val (threeA b1 b2), .int .i64 2, .slice (some ⟨bk, 0, none⟩) 3 3] w1 _ from m24 threeP (threeA b1 b2) threeI 2 knownW (some ⟨bk, 0, none⟩) 3 w1 (thR (h1.holds (both (thr1 b1) (thr2 b2)) memZ)) (h1.rd_of_blk memZ) (by decide)) ?_; rintro v w2 ⟨a9, c9, rfl, hn⟩; rw [w_view2] at hn ⊢; refine LR.back (h1.newSl hn) ?_; clear hn h1) | (refine CallsTo.mono (show CallsTo Try.prog 27 [.slice none 0 0, (plcA 1 24).val] w1 _ from m27 sort_few [] none 0 (plcA 1 24) w1 (Rd.nil _ _) (fun _ => rfl) (by decide) (by decide) (by decide)) ?_; rintro v w2 ⟨a10, c10, rfl, hn⟩; rw [w_lrn] at hn ⊢; refine LR.back (h1.newSl hn) ?_; clear hn h1))))
    all_goals (refine At.stage_same (fun _ h => St.sub h subZ) ?_))
  all_goals (
    apply DW.loud 1
    · exact rfl
    · decide +kernel
    repeat'(first|refine kg' ?_|refine kG' ?_|apply kM|refine kv' ?_|refine kK' fun _=>?_|refine kU' ?_|refine kB' fun _=>?_|refine kA' fun _=>?_|(apply kq; (· exact rfl); (· intro w1 h1; first | (have hq := CallsTo.q (m13 threeP (threeA b1 b2) w1 (thR (h1.holds (both (thr1 b1) (thr2 b2)) memZ)) threeI) h1; rw [w_chk] at hq; exact hq) | (have hq := CallsTo.q (m15 threeP (threeA b1 b2) 3 0 w1 (thR (h1.holds (both (thr1 b1) (thr2 b2)) memZ)) threeI) h1; rw [w_far] at hq; exact hq) | exact CallsTo.q (m34 0 14 w1 (by decide)) h1 | exact CallsTo.q (m34 1 24 w1 (by decide)) h1 | exact CallsTo.q (m34 2 96 w1 (by decide)) h1 | exact CallsTo.q (show CallsTo Try.prog 17 [.slice a7 2 c7, .slice _ 2 2] w1 _ from t19 a7 _ c7 2 [0, 1] [0, 1] w1 (h1.rd_of_own memZ) (h1.rd_of_blk memZ) (by decide)) h1 | exact CallsTo.q (show CallsTo Try.prog 17 [.slice a8 2 c8, .slice _ 2 2] w1 _ from t19 a8 _ c8 2 [3, 5] [3, 5] w1 (h1.rd_of_own memZ) (h1.rd_of_blk memZ) (by decide)) h1 | exact CallsTo.q (show CallsTo Try.prog 25 [.slice a9 2 c9, .slice (some ⟨bk, 0, none⟩) 2 3] w1 _ from m25 a9 (some ⟨bk, 0, none⟩) c9 3 [plcA 0 14, plcA 1 24] [plcA 0 14, plcA 1 24] w1 (h1.rd_of_own memZ) (Rd.take 8 (h1.rd_of_blk (b := bk) (cs := pcs knownW) memZ)) (by decide)) h1 | exact CallsTo.q (show CallsTo Try.prog 25 [.slice a9 1 c9, .slice (some ⟨bk, 8, none⟩) 1 1] w1 _ from m25 a9 (some ⟨bk, 8, none⟩) c9 1 [plcA 2 96] [plcA 2 96] w1 (h1.rd_of_own memZ) (rd_from8 (h1.rd_of_blk (b := bk) (cs := pcs knownW) memZ)) (by decide)) h1))|(apply LR.call; (· exact rfl); (intro w1 h1; first | (refine CallsTo.mono (show CallsTo Try.prog 33 [] w1 _ from m33 w1) ?_; rintro v w2 ⟨b1, b2, rfl, hn⟩; refine LR.back (h1.got hn th_dep) ?_; clear hn h1) | (refine CallsTo.mono (show CallsTo Try.prog 18 [threeP.val (threeA b1 b2), .int .i64 3] w1 _ from m18 threeP (threeA b1 b2) 3 w1 (thR (h1.holds (both (thr1 b1) (thr2 b2)) memZ)) threeI) ?_; rintro v w2 ⟨a7, c7, rfl, hn⟩; rw [w_sides] at hn ⊢; refine LR.back (h1.newSl hn) ?_; clear hn h1) | (refine CallsTo.mono (show CallsTo Try.prog 20 [threeP.val (threeA b1 b2), .int .i64 1] w1 _ from m20 threeP (threeA b1 b2) 1 w1 (thR (h1.holds (both (thr1 b1) (thr2 b2)) memZ)) threeI) ?_; rintro v w2 ⟨a8, c8, rfl, hn⟩; rw [w_gws] at hn ⊢; refine LR.back (h1.newSl hn) ?_; clear hn h1) | (refine CallsTo.mono (show CallsTo Try.prog 24 [threeP.val (threeA b1 b2), .int .i64 0, .slice (some ⟨bk, 0, none⟩) 3 3] w1 _ from m24 threeP (threeA b1 b2) threeI 0 knownW (some ⟨bk, 0, none⟩) 3 w1 (thR (h1.holds (both (thr1 b1) (thr2 b2)) memZ)) (h1.rd_of_blk memZ) (by decide)) ?_; rintro v w2 ⟨a9, c9, rfl, hn⟩; rw [w_view0] at hn ⊢; refine LR.back (h1.newSl hn) ?_; clear hn h1) | (refine CallsTo.mono (show CallsTo Try.prog 24 [threeP.val (threeA b1 b2), .int .i64 2, .slice (some ⟨bk, 0, none⟩) 3 3] w1 _ from m24 threeP (threeA b1 b2) threeI 2 knownW (some ⟨bk, 0, none⟩) 3 w1 (thR (h1.holds (both (thr1 b1) (thr2 b2)) memZ)) (h1.rd_of_blk memZ) (by decide)) ?_; rintro v w2 ⟨a9, c9, rfl, hn⟩; rw [w_view2] at hn ⊢; refine LR.back (h1.newSl hn) ?_; clear hn h1) | (refine CallsTo.mono (show CallsTo Try.prog 27 [.slice none 0 0, (plcA 1 24).val] w1 _ from m27 sort_few [] none 0 (plcA 1 24) w1 (Rd.nil _ _) (fun _ => rfl) (by decide) (by decide) (by decide)) ?_; rintro v w2 ⟨a10, c10, rfl, hn⟩; rw [w_lrn] at hn ⊢; refine LR.back (h1.newSl hn) ?_; clear hn h1))))
    all_goals (refine At.stage_same (fun _ h => St.sub h subZ) ?_))
  all_goals (
    apply DW.quiet [2, 3]
    · decide +kernel
    · first | exact fun _ h => h | exact fun _ h => St.sub h subZ
    repeat'(first|(apply QL.evg; (iterate 3 exact rfl); (· apply Ev_hi; (· exact rfl); (· exact rfl); (· decide); (· decide)); (· exact rfl))|(apply QL.evg; (iterate 3 exact rfl); (· apply Ev_lo; (· exact rfl); (· exact rfl); (· decide); (· decide); (· decide)); (· exact rfl))|refine yv' ?_|refine uv' ?_|refine un' ?_|(refine us' ?_ ?_;all_goals(intro hc;try simp only[hcs]at hc;try(exfalso;first|contradiction|omega)))|apply QL.nil)
    all_goals (show DW _ _ _ _ _ _ _ _))
  apply DP.begin []
  refine DP.more (PI.lr 6 19 [(16, .bool true)] (fun b => .slice (some ⟨b, 0, none⟩) 2 2) (fun b => [.own b (.cells ([.int .i64 0, .int .i64 1] : List Value).toArray 3 (0, 0))]) rfl (fun b x hx => by simp only [List.mem_singleton] at hx; subst hx; rfl) ?_) ?_
  · intro h w2
    apply kg
    · exact rfl
    · exact rfl
    apply kK
    · exact rfl
    · exact rfl
    · exact rfl
    · exact rfl
    intro b
    apply kM
    exact At.made rfl
  refine DP.go 4 [6] [19] [[16]] rfl rfl rfl rfl (by decide +kernel) ⟨⟨rfl, trivial⟩, fun _ _ _ => trivial, trivial⟩ (fun A w' hA => St.sub hA (by simp only [List.cons_append, List.nil_append]; repeat (first | exact List.nil_sublist _ | exact List.Sublist.refl _ | apply List.Sublist.cons_cons | apply List.Sublist.cons))) ?_
  intro gg A LA hLA
  simp only [List.cons_append, List.nil_append] at hLA
  subst hLA
  repeat'(first|refine kg' ?_|refine kG' ?_|apply kM|refine kv' ?_|refine kK' fun _=>?_|refine kU' ?_|refine kB' fun _=>?_|refine kA' fun _=>?_|(apply kq; (· exact rfl); (· intro w1 h1; first | (have hq := CallsTo.q (m13 threeP (threeA b1 b2) w1 (thR (h1.holds (both (thr1 b1) (thr2 b2)) memZ)) threeI) h1; rw [w_chk] at hq; exact hq) | (have hq := CallsTo.q (m15 threeP (threeA b1 b2) 3 0 w1 (thR (h1.holds (both (thr1 b1) (thr2 b2)) memZ)) threeI) h1; rw [w_far] at hq; exact hq) | exact CallsTo.q (m34 0 14 w1 (by decide)) h1 | exact CallsTo.q (m34 1 24 w1 (by decide)) h1 | exact CallsTo.q (m34 2 96 w1 (by decide)) h1 | exact CallsTo.q (show CallsTo Try.prog 17 [.slice a7 2 c7, .slice _ 2 2] w1 _ from t19 a7 _ c7 2 [0, 1] [0, 1] w1 (h1.rd_of_own memZ) (h1.rd_of_blk memZ) (by decide)) h1 | exact CallsTo.q (show CallsTo Try.prog 17 [.slice a8 2 c8, .slice _ 2 2] w1 _ from t19 a8 _ c8 2 [3, 5] [3, 5] w1 (h1.rd_of_own memZ) (h1.rd_of_blk memZ) (by decide)) h1 | exact CallsTo.q (show CallsTo Try.prog 25 [.slice a9 2 c9, .slice (some ⟨bk, 0, none⟩) 2 3] w1 _ from m25 a9 (some ⟨bk, 0, none⟩) c9 3 [plcA 0 14, plcA 1 24] [plcA 0 14, plcA 1 24] w1 (h1.rd_of_own memZ) (Rd.take 8 (h1.rd_of_blk (b := bk) (cs := pcs knownW) memZ)) (by decide)) h1 | exact CallsTo.q (show CallsTo Try.prog 25 [.slice a9 1 c9, .slice (some ⟨bk, 8, none⟩) 1 1] w1 _ from m25 a9 (some ⟨bk, 8, none⟩) c9 1 [plcA 2 96] [plcA 2 96] w1 (h1.rd_of_own memZ) (rd_from8 (h1.rd_of_blk (b := bk) (cs := pcs knownW) memZ)) (by decide)) h1))|(apply LR.call; (· exact rfl); (intro w1 h1; first | (refine CallsTo.mono (show CallsTo Try.prog 33 [] w1 _ from m33 w1) ?_; rintro v w2 ⟨b1, b2, rfl, hn⟩; refine LR.back (h1.got hn th_dep) ?_; clear hn h1) | (refine CallsTo.mono (show CallsTo Try.prog 18 [threeP.val (threeA b1 b2), .int .i64 3] w1 _ from m18 threeP (threeA b1 b2) 3 w1 (thR (h1.holds (both (thr1 b1) (thr2 b2)) memZ)) threeI) ?_; rintro v w2 ⟨a7, c7, rfl, hn⟩; rw [w_sides] at hn ⊢; refine LR.back (h1.newSl hn) ?_; clear hn h1) | (refine CallsTo.mono (show CallsTo Try.prog 20 [threeP.val (threeA b1 b2), .int .i64 1] w1 _ from m20 threeP (threeA b1 b2) 1 w1 (thR (h1.holds (both (thr1 b1) (thr2 b2)) memZ)) threeI) ?_; rintro v w2 ⟨a8, c8, rfl, hn⟩; rw [w_gws] at hn ⊢; refine LR.back (h1.newSl hn) ?_; clear hn h1) | (refine CallsTo.mono (show CallsTo Try.prog 24 [threeP.val (threeA b1 b2), .int .i64 0, .slice (some ⟨bk, 0, none⟩) 3 3] w1 _ from m24 threeP (threeA b1 b2) threeI 0 knownW (some ⟨bk, 0, none⟩) 3 w1 (thR (h1.holds (both (thr1 b1) (thr2 b2)) memZ)) (h1.rd_of_blk memZ) (by decide)) ?_; rintro v w2 ⟨a9, c9, rfl, hn⟩; rw [w_view0] at hn ⊢; refine LR.back (h1.newSl hn) ?_; clear hn h1) | (refine CallsTo.mono (show CallsTo Try.prog 24 [threeP.val (threeA b1 b2), .int .i64 2, .slice (some ⟨bk, 0, none⟩) 3 3] w1 _ from m24 threeP (threeA b1 b2) threeI 2 knownW (some ⟨bk, 0, none⟩) 3 w1 (thR (h1.holds (both (thr1 b1) (thr2 b2)) memZ)) (h1.rd_of_blk memZ) (by decide)) ?_; rintro v w2 ⟨a9, c9, rfl, hn⟩; rw [w_view2] at hn ⊢; refine LR.back (h1.newSl hn) ?_; clear hn h1) | (refine CallsTo.mono (show CallsTo Try.prog 27 [.slice none 0 0, (plcA 1 24).val] w1 _ from m27 sort_few [] none 0 (plcA 1 24) w1 (Rd.nil _ _) (fun _ => rfl) (by decide) (by decide) (by decide)) ?_; rintro v w2 ⟨a10, c10, rfl, hn⟩; rw [w_lrn] at hn ⊢; refine LR.back (h1.newSl hn) ?_; clear hn h1))))
  apply At.pdone (ds := [19]) rfl
  · repeat (first | exact MixR.base _ | (apply MixR.upd; case hd => exact rfl))
  · repeat (first | exact Tl.nil | apply Tl.cons)
  · exact (fun A w' hA => St.sub hA (by simp only [List.cons_append, List.nil_append]; repeat (first | exact List.nil_sublist _ | exact List.Sublist.refl _ | apply List.Sublist.cons_cons | apply List.Sublist.cons)))
  refine DP.go 5 [6] [19] [[16]] rfl rfl rfl rfl (by decide +kernel) ⟨⟨rfl, trivial⟩, fun _ _ _ => trivial, trivial⟩ (fun A w' hA => St.sub hA (by simp only [List.cons_append, List.nil_append]; repeat (first | exact List.nil_sublist _ | exact List.Sublist.refl _ | apply List.Sublist.cons_cons | apply List.Sublist.cons))) ?_
  intro gg A LA hLA
  simp only [List.cons_append, List.nil_append] at hLA
  subst hLA
  repeat'(first|refine kg' ?_|refine kG' ?_|apply kM|refine kv' ?_|refine kK' fun _=>?_|refine kU' ?_|refine kB' fun _=>?_|refine kA' fun _=>?_|(apply kq; (· exact rfl); (· intro w1 h1; first | (have hq := CallsTo.q (m13 threeP (threeA b1 b2) w1 (thR (h1.holds (both (thr1 b1) (thr2 b2)) memZ)) threeI) h1; rw [w_chk] at hq; exact hq) | (have hq := CallsTo.q (m15 threeP (threeA b1 b2) 3 0 w1 (thR (h1.holds (both (thr1 b1) (thr2 b2)) memZ)) threeI) h1; rw [w_far] at hq; exact hq) | exact CallsTo.q (m34 0 14 w1 (by decide)) h1 | exact CallsTo.q (m34 1 24 w1 (by decide)) h1 | exact CallsTo.q (m34 2 96 w1 (by decide)) h1 | exact CallsTo.q (show CallsTo Try.prog 17 [.slice a7 2 c7, .slice _ 2 2] w1 _ from t19 a7 _ c7 2 [0, 1] [0, 1] w1 (h1.rd_of_own memZ) (h1.rd_of_blk memZ) (by decide)) h1 | exact CallsTo.q (show CallsTo Try.prog 17 [.slice a8 2 c8, .slice _ 2 2] w1 _ from t19 a8 _ c8 2 [3, 5] [3, 5] w1 (h1.rd_of_own memZ) (h1.rd_of_blk memZ) (by decide)) h1 | exact CallsTo.q (show CallsTo Try.prog 25 [.slice a9 2 c9, .slice (some ⟨bk, 0, none⟩) 2 3] w1 _ from m25 a9 (some ⟨bk, 0, none⟩) c9 3 [plcA 0 14, plcA 1 24] [plcA 0 14, plcA 1 24] w1 (h1.rd_of_own memZ) (Rd.take 8 (h1.rd_of_blk (b := bk) (cs := pcs knownW) memZ)) (by decide)) h1 | exact CallsTo.q (show CallsTo Try.prog 25 [.slice a9 1 c9, .slice (some ⟨bk, 8, none⟩) 1 1] w1 _ from m25 a9 (some ⟨bk, 8, none⟩) c9 1 [plcA 2 96] [plcA 2 96] w1 (h1.rd_of_own memZ) (rd_from8 (h1.rd_of_blk (b := bk) (cs := pcs knownW) memZ)) (by decide)) h1))|(apply LR.call; (· exact rfl); (intro w1 h1; first | (refine CallsTo.mono (show CallsTo Try.prog 33 [] w1 _ from m33 w1) ?_; rintro v w2 ⟨b1, b2, rfl, hn⟩; refine LR.back (h1.got hn th_dep) ?_; clear hn h1) | (refine CallsTo.mono (show CallsTo Try.prog 18 [threeP.val (threeA b1 b2), .int .i64 3] w1 _ from m18 threeP (threeA b1 b2) 3 w1 (thR (h1.holds (both (thr1 b1) (thr2 b2)) memZ)) threeI) ?_; rintro v w2 ⟨a7, c7, rfl, hn⟩; rw [w_sides] at hn ⊢; refine LR.back (h1.newSl hn) ?_; clear hn h1) | (refine CallsTo.mono (show CallsTo Try.prog 20 [threeP.val (threeA b1 b2), .int .i64 1] w1 _ from m20 threeP (threeA b1 b2) 1 w1 (thR (h1.holds (both (thr1 b1) (thr2 b2)) memZ)) threeI) ?_; rintro v w2 ⟨a8, c8, rfl, hn⟩; rw [w_gws] at hn ⊢; refine LR.back (h1.newSl hn) ?_; clear hn h1) | (refine CallsTo.mono (show CallsTo Try.prog 24 [threeP.val (threeA b1 b2), .int .i64 0, .slice (some ⟨bk, 0, none⟩) 3 3] w1 _ from m24 threeP (threeA b1 b2) threeI 0 knownW (some ⟨bk, 0, none⟩) 3 w1 (thR (h1.holds (both (thr1 b1) (thr2 b2)) memZ)) (h1.rd_of_blk memZ) (by decide)) ?_; rintro v w2 ⟨a9, c9, rfl, hn⟩; rw [w_view0] at hn ⊢; refine LR.back (h1.newSl hn) ?_; clear hn h1) | (refine CallsTo.mono (show CallsTo Try.prog 24 [threeP.val (threeA b1 b2), .int .i64 2, .slice (some ⟨bk, 0, none⟩) 3 3] w1 _ from m24 threeP (threeA b1 b2) threeI 2 knownW (some ⟨bk, 0, none⟩) 3 w1 (thR (h1.holds (both (thr1 b1) (thr2 b2)) memZ)) (h1.rd_of_blk memZ) (by decide)) ?_; rintro v w2 ⟨a9, c9, rfl, hn⟩; rw [w_view2] at hn ⊢; refine LR.back (h1.newSl hn) ?_; clear hn h1) | (refine CallsTo.mono (show CallsTo Try.prog 27 [.slice none 0 0, (plcA 1 24).val] w1 _ from m27 sort_few [] none 0 (plcA 1 24) w1 (Rd.nil _ _) (fun _ => rfl) (by decide) (by decide) (by decide)) ?_; rintro v w2 ⟨a10, c10, rfl, hn⟩; rw [w_lrn] at hn ⊢; refine LR.back (h1.newSl hn) ?_; clear hn h1))))
  apply At.pdone (ds := [19]) rfl
  · repeat (first | exact MixR.base _ | (apply MixR.upd; case hd => exact rfl))
  · repeat (first | exact Tl.nil | apply Tl.cons)
  · exact (fun A w' hA => St.sub hA (by simp only [List.cons_append, List.nil_append]; repeat (first | exact List.nil_sublist _ | exact List.Sublist.refl _ | apply List.Sublist.cons_cons | apply List.Sublist.cons)))
  refine DP.take 6 19 (fun b => .slice (some ⟨b, 0, none⟩) 2 2) (fun b => [.own b (.cells ([.int .i64 0, .int .i64 1] : List Value).toArray 3 (0, 0))]) [] [19] [[16]] rfl rfl rfl rfl rfl rfl rfl (by decide +kernel) ⟨⟨rfl, trivial⟩, fun _ _ _ => trivial, trivial⟩ (fun A w' hA => St.sub hA (by simp only [List.cons_append, List.nil_append]; repeat (first | exact List.nil_sublist _ | exact List.Sublist.refl _ | apply List.Sublist.cons_cons | apply List.Sublist.cons))) (fun bp19 => ?_)
  refine DP.nil ?_
  refine DW.castL (by simp only [List.cons_append, List.nil_append]; exact rfl) ?_
  all_goals (
    apply DW.loud 7
    · exact rfl
    · decide +kernel
    repeat'(first|refine kg' ?_|refine kG' ?_|apply kM|refine kv' ?_|refine kK' fun _=>?_|refine kU' ?_|refine kB' fun _=>?_|refine kA' fun _=>?_|(apply kq; (· exact rfl); (· intro w1 h1; first | (have hq := CallsTo.q (m13 threeP (threeA b1 b2) w1 (thR (h1.holds (both (thr1 b1) (thr2 b2)) memZ)) threeI) h1; rw [w_chk] at hq; exact hq) | (have hq := CallsTo.q (m15 threeP (threeA b1 b2) 3 0 w1 (thR (h1.holds (both (thr1 b1) (thr2 b2)) memZ)) threeI) h1; rw [w_far] at hq; exact hq) | exact CallsTo.q (m34 0 14 w1 (by decide)) h1 | exact CallsTo.q (m34 1 24 w1 (by decide)) h1 | exact CallsTo.q (m34 2 96 w1 (by decide)) h1 | exact CallsTo.q (show CallsTo Try.prog 17 [.slice a7 2 c7, .slice _ 2 2] w1 _ from t19 a7 _ c7 2 [0, 1] [0, 1] w1 (h1.rd_of_own memZ) (h1.rd_of_blk memZ) (by decide)) h1 | exact CallsTo.q (show CallsTo Try.prog 17 [.slice a8 2 c8, .slice _ 2 2] w1 _ from t19 a8 _ c8 2 [3, 5] [3, 5] w1 (h1.rd_of_own memZ) (h1.rd_of_blk memZ) (by decide)) h1 | exact CallsTo.q (show CallsTo Try.prog 25 [.slice a9 2 c9, .slice (some ⟨bk, 0, none⟩) 2 3] w1 _ from m25 a9 (some ⟨bk, 0, none⟩) c9 3 [plcA 0 14, plcA 1 24] [plcA 0 14, plcA 1 24] w1 (h1.rd_of_own memZ) (Rd.take 8 (h1.rd_of_blk (b := bk) (cs := pcs knownW) memZ)) (by decide)) h1 | exact CallsTo.q (show CallsTo Try.prog 25 [.slice a9 1 c9, .slice (some ⟨bk, 8, none⟩) 1 1] w1 _ from m25 a9 (some ⟨bk, 8, none⟩) c9 1 [plcA 2 96] [plcA 2 96] w1 (h1.rd_of_own memZ) (rd_from8 (h1.rd_of_blk (b := bk) (cs := pcs knownW) memZ)) (by decide)) h1))|(apply LR.call; (· exact rfl); (intro w1 h1; first | (refine CallsTo.mono (show CallsTo Try.prog 33 [] w1 _ from m33 w1) ?_; rintro v w2 ⟨b1, b2, rfl, hn⟩; refine LR.back (h1.got hn th_dep) ?_; clear hn h1) | (refine CallsTo.mono (show CallsTo Try.prog 18 [threeP.val (threeA b1 b2), .int .i64 3] w1 _ from m18 threeP (threeA b1 b2) 3 w1 (thR (h1.holds (both (thr1 b1) (thr2 b2)) memZ)) threeI) ?_; rintro v w2 ⟨a7, c7, rfl, hn⟩; rw [w_sides] at hn ⊢; refine LR.back (h1.newSl hn) ?_; clear hn h1) | (refine CallsTo.mono (show CallsTo Try.prog 20 [threeP.val (threeA b1 b2), .int .i64 1] w1 _ from m20 threeP (threeA b1 b2) 1 w1 (thR (h1.holds (both (thr1 b1) (thr2 b2)) memZ)) threeI) ?_; rintro v w2 ⟨a8, c8, rfl, hn⟩; rw [w_gws] at hn ⊢; refine LR.back (h1.newSl hn) ?_; clear hn h1) | (refine CallsTo.mono (show CallsTo Try.prog 24 [threeP.val (threeA b1 b2), .int .i64 0, .slice (some ⟨bk, 0, none⟩) 3 3] w1 _ from m24 threeP (threeA b1 b2) threeI 0 knownW (some ⟨bk, 0, none⟩) 3 w1 (thR (h1.holds (both (thr1 b1) (thr2 b2)) memZ)) (h1.rd_of_blk memZ) (by decide)) ?_; rintro v w2 ⟨a9, c9, rfl, hn⟩; rw [w_view0] at hn ⊢; refine LR.back (h1.newSl hn) ?_; clear hn h1) | (refine CallsTo.mono (show CallsTo Try.prog 24 [threeP.val (threeA b1 b2), .int .i64 2, .slice (some ⟨bk, 0, none⟩) 3 3] w1 _ from m24 threeP (threeA b1 b2) threeI 2 knownW (some ⟨bk, 0, none⟩) 3 w1 (thR (h1.holds (both (thr1 b1) (thr2 b2)) memZ)) (h1.rd_of_blk memZ) (by decide)) ?_; rintro v w2 ⟨a9, c9, rfl, hn⟩; rw [w_view2] at hn ⊢; refine LR.back (h1.newSl hn) ?_; clear hn h1) | (refine CallsTo.mono (show CallsTo Try.prog 27 [.slice none 0 0, (plcA 1 24).val] w1 _ from m27 sort_few [] none 0 (plcA 1 24) w1 (Rd.nil _ _) (fun _ => rfl) (by decide) (by decide) (by decide)) ?_; rintro v w2 ⟨a10, c10, rfl, hn⟩; rw [w_lrn] at hn ⊢; refine LR.back (h1.newSl hn) ?_; clear hn h1))))
    all_goals (refine At.stage_same (fun _ h => St.sub h subZ) ?_))
  all_goals (
    apply DW.quiet [8, 9]
    · decide +kernel
    · first | exact fun _ h => h | exact fun _ h => St.sub h subZ
    repeat'(first|(apply QL.evg; (iterate 3 exact rfl); (· apply Ev_hi; (· exact rfl); (· exact rfl); (· decide); (· decide)); (· exact rfl))|(apply QL.evg; (iterate 3 exact rfl); (· apply Ev_lo; (· exact rfl); (· exact rfl); (· decide); (· decide); (· decide)); (· exact rfl))|refine yv' ?_|refine uv' ?_|refine un' ?_|(refine us' ?_ ?_;all_goals(intro hc;try simp only[hcs]at hc;try(exfalso;first|contradiction|omega)))|apply QL.nil)
    all_goals (show DW _ _ _ _ _ _ _ _))
  apply DP.begin []
  refine DP.more (PI.lr 12 25 [(22, .bool true)] (fun b => .slice (some ⟨b, 0, none⟩) 2 2) (fun b => [.own b (.cells ([.int .i64 3, .int .i64 5] : List Value).toArray 3 (0, 0))]) rfl (fun b x hx => by simp only [List.mem_singleton] at hx; subst hx; rfl) ?_) ?_
  · intro h w2
    apply kg
    · exact rfl
    · exact rfl
    apply kK
    · exact rfl
    · exact rfl
    · exact rfl
    · exact rfl
    intro b
    apply kM
    exact At.made rfl
  refine DP.go 10 [12] [25] [[22]] rfl rfl rfl rfl (by decide +kernel) ⟨⟨rfl, trivial⟩, fun _ _ _ => trivial, trivial⟩ (fun A w' hA => St.sub hA (by simp only [List.cons_append, List.nil_append]; repeat (first | exact List.nil_sublist _ | exact List.Sublist.refl _ | apply List.Sublist.cons_cons | apply List.Sublist.cons))) ?_
  intro gg A LA hLA
  simp only [List.cons_append, List.nil_append] at hLA
  subst hLA
  repeat'(first|refine kg' ?_|refine kG' ?_|apply kM|refine kv' ?_|refine kK' fun _=>?_|refine kU' ?_|refine kB' fun _=>?_|refine kA' fun _=>?_|(apply kq; (· exact rfl); (· intro w1 h1; first | (have hq := CallsTo.q (m13 threeP (threeA b1 b2) w1 (thR (h1.holds (both (thr1 b1) (thr2 b2)) memZ)) threeI) h1; rw [w_chk] at hq; exact hq) | (have hq := CallsTo.q (m15 threeP (threeA b1 b2) 3 0 w1 (thR (h1.holds (both (thr1 b1) (thr2 b2)) memZ)) threeI) h1; rw [w_far] at hq; exact hq) | exact CallsTo.q (m34 0 14 w1 (by decide)) h1 | exact CallsTo.q (m34 1 24 w1 (by decide)) h1 | exact CallsTo.q (m34 2 96 w1 (by decide)) h1 | exact CallsTo.q (show CallsTo Try.prog 17 [.slice a7 2 c7, .slice _ 2 2] w1 _ from t19 a7 _ c7 2 [0, 1] [0, 1] w1 (h1.rd_of_own memZ) (h1.rd_of_blk memZ) (by decide)) h1 | exact CallsTo.q (show CallsTo Try.prog 17 [.slice a8 2 c8, .slice _ 2 2] w1 _ from t19 a8 _ c8 2 [3, 5] [3, 5] w1 (h1.rd_of_own memZ) (h1.rd_of_blk memZ) (by decide)) h1 | exact CallsTo.q (show CallsTo Try.prog 25 [.slice a9 2 c9, .slice (some ⟨bk, 0, none⟩) 2 3] w1 _ from m25 a9 (some ⟨bk, 0, none⟩) c9 3 [plcA 0 14, plcA 1 24] [plcA 0 14, plcA 1 24] w1 (h1.rd_of_own memZ) (Rd.take 8 (h1.rd_of_blk (b := bk) (cs := pcs knownW) memZ)) (by decide)) h1 | exact CallsTo.q (show CallsTo Try.prog 25 [.slice a9 1 c9, .slice (some ⟨bk, 8, none⟩) 1 1] w1 _ from m25 a9 (some ⟨bk, 8, none⟩) c9 1 [plcA 2 96] [plcA 2 96] w1 (h1.rd_of_own memZ) (rd_from8 (h1.rd_of_blk (b := bk) (cs := pcs knownW) memZ)) (by decide)) h1))|(apply LR.call; (· exact rfl); (intro w1 h1; first | (refine CallsTo.mono (show CallsTo Try.prog 33 [] w1 _ from m33 w1) ?_; rintro v w2 ⟨b1, b2, rfl, hn⟩; refine LR.back (h1.got hn th_dep) ?_; clear hn h1) | (refine CallsTo.mono (show CallsTo Try.prog 18 [threeP.val (threeA b1 b2), .int .i64 3] w1 _ from m18 threeP (threeA b1 b2) 3 w1 (thR (h1.holds (both (thr1 b1) (thr2 b2)) memZ)) threeI) ?_; rintro v w2 ⟨a7, c7, rfl, hn⟩; rw [w_sides] at hn ⊢; refine LR.back (h1.newSl hn) ?_; clear hn h1) | (refine CallsTo.mono (show CallsTo Try.prog 20 [threeP.val (threeA b1 b2), .int .i64 1] w1 _ from m20 threeP (threeA b1 b2) 1 w1 (thR (h1.holds (both (thr1 b1) (thr2 b2)) memZ)) threeI) ?_; rintro v w2 ⟨a8, c8, rfl, hn⟩; rw [w_gws] at hn ⊢; refine LR.back (h1.newSl hn) ?_; clear hn h1) | (refine CallsTo.mono (show CallsTo Try.prog 24 [threeP.val (threeA b1 b2), .int .i64 0, .slice (some ⟨bk, 0, none⟩) 3 3] w1 _ from m24 threeP (threeA b1 b2) threeI 0 knownW (some ⟨bk, 0, none⟩) 3 w1 (thR (h1.holds (both (thr1 b1) (thr2 b2)) memZ)) (h1.rd_of_blk memZ) (by decide)) ?_; rintro v w2 ⟨a9, c9, rfl, hn⟩; rw [w_view0] at hn ⊢; refine LR.back (h1.newSl hn) ?_; clear hn h1) | (refine CallsTo.mono (show CallsTo Try.prog 24 [threeP.val (threeA b1 b2), .int .i64 2, .slice (some ⟨bk, 0, none⟩) 3 3] w1 _ from m24 threeP (threeA b1 b2) threeI 2 knownW (some ⟨bk, 0, none⟩) 3 w1 (thR (h1.holds (both (thr1 b1) (thr2 b2)) memZ)) (h1.rd_of_blk memZ) (by decide)) ?_; rintro v w2 ⟨a9, c9, rfl, hn⟩; rw [w_view2] at hn ⊢; refine LR.back (h1.newSl hn) ?_; clear hn h1) | (refine CallsTo.mono (show CallsTo Try.prog 27 [.slice none 0 0, (plcA 1 24).val] w1 _ from m27 sort_few [] none 0 (plcA 1 24) w1 (Rd.nil _ _) (fun _ => rfl) (by decide) (by decide) (by decide)) ?_; rintro v w2 ⟨a10, c10, rfl, hn⟩; rw [w_lrn] at hn ⊢; refine LR.back (h1.newSl hn) ?_; clear hn h1))))
  apply At.pdone (ds := [25]) rfl
  · repeat (first | exact MixR.base _ | (apply MixR.upd; case hd => exact rfl))
  · repeat (first | exact Tl.nil | apply Tl.cons)
  · exact (fun A w' hA => St.sub hA (by simp only [List.cons_append, List.nil_append]; repeat (first | exact List.nil_sublist _ | exact List.Sublist.refl _ | apply List.Sublist.cons_cons | apply List.Sublist.cons)))
  refine DP.go 11 [12] [25] [[22]] rfl rfl rfl rfl (by decide +kernel) ⟨⟨rfl, trivial⟩, fun _ _ _ => trivial, trivial⟩ (fun A w' hA => St.sub hA (by simp only [List.cons_append, List.nil_append]; repeat (first | exact List.nil_sublist _ | exact List.Sublist.refl _ | apply List.Sublist.cons_cons | apply List.Sublist.cons))) ?_
  intro gg A LA hLA
  simp only [List.cons_append, List.nil_append] at hLA
  subst hLA
  repeat'(first|refine kg' ?_|refine kG' ?_|apply kM|refine kv' ?_|refine kK' fun _=>?_|refine kU' ?_|refine kB' fun _=>?_|refine kA' fun _=>?_|(apply kq; (· exact rfl); (· intro w1 h1; first | (have hq := CallsTo.q (m13 threeP (threeA b1 b2) w1 (thR (h1.holds (both (thr1 b1) (thr2 b2)) memZ)) threeI) h1; rw [w_chk] at hq; exact hq) | (have hq := CallsTo.q (m15 threeP (threeA b1 b2) 3 0 w1 (thR (h1.holds (both (thr1 b1) (thr2 b2)) memZ)) threeI) h1; rw [w_far] at hq; exact hq) | exact CallsTo.q (m34 0 14 w1 (by decide)) h1 | exact CallsTo.q (m34 1 24 w1 (by decide)) h1 | exact CallsTo.q (m34 2 96 w1 (by decide)) h1 | exact CallsTo.q (show CallsTo Try.prog 17 [.slice a7 2 c7, .slice _ 2 2] w1 _ from t19 a7 _ c7 2 [0, 1] [0, 1] w1 (h1.rd_of_own memZ) (h1.rd_of_blk memZ) (by decide)) h1 | exact CallsTo.q (show CallsTo Try.prog 17 [.slice a8 2 c8, .slice _ 2 2] w1 _ from t19 a8 _ c8 2 [3, 5] [3, 5] w1 (h1.rd_of_own memZ) (h1.rd_of_blk memZ) (by decide)) h1 | exact CallsTo.q (show CallsTo Try.prog 25 [.slice a9 2 c9, .slice (some ⟨bk, 0, none⟩) 2 3] w1 _ from m25 a9 (some ⟨bk, 0, none⟩) c9 3 [plcA 0 14, plcA 1 24] [plcA 0 14, plcA 1 24] w1 (h1.rd_of_own memZ) (Rd.take 8 (h1.rd_of_blk (b := bk) (cs := pcs knownW) memZ)) (by decide)) h1 | exact CallsTo.q (show CallsTo Try.prog 25 [.slice a9 1 c9, .slice (some ⟨bk, 8, none⟩) 1 1] w1 _ from m25 a9 (some ⟨bk, 8, none⟩) c9 1 [plcA 2 96] [plcA 2 96] w1 (h1.rd_of_own memZ) (rd_from8 (h1.rd_of_blk (b := bk) (cs := pcs knownW) memZ)) (by decide)) h1))|(apply LR.call; (· exact rfl); (intro w1 h1; first | (refine CallsTo.mono (show CallsTo Try.prog 33 [] w1 _ from m33 w1) ?_; rintro v w2 ⟨b1, b2, rfl, hn⟩; refine LR.back (h1.got hn th_dep) ?_; clear hn h1) | (refine CallsTo.mono (show CallsTo Try.prog 18 [threeP.val (threeA b1 b2), .int .i64 3] w1 _ from m18 threeP (threeA b1 b2) 3 w1 (thR (h1.holds (both (thr1 b1) (thr2 b2)) memZ)) threeI) ?_; rintro v w2 ⟨a7, c7, rfl, hn⟩; rw [w_sides] at hn ⊢; refine LR.back (h1.newSl hn) ?_; clear hn h1) | (refine CallsTo.mono (show CallsTo Try.prog 20 [threeP.val (threeA b1 b2), .int .i64 1] w1 _ from m20 threeP (threeA b1 b2) 1 w1 (thR (h1.holds (both (thr1 b1) (thr2 b2)) memZ)) threeI) ?_; rintro v w2 ⟨a8, c8, rfl, hn⟩; rw [w_gws] at hn ⊢; refine LR.back (h1.newSl hn) ?_; clear hn h1) | (refine CallsTo.mono (show CallsTo Try.prog 24 [threeP.val (threeA b1 b2), .int .i64 0, .slice (some ⟨bk, 0, none⟩) 3 3] w1 _ from m24 threeP (threeA b1 b2) threeI 0 knownW (some ⟨bk, 0, none⟩) 3 w1 (thR (h1.holds (both (thr1 b1) (thr2 b2)) memZ)) (h1.rd_of_blk memZ) (by decide)) ?_; rintro v w2 ⟨a9, c9, rfl, hn⟩; rw [w_view0] at hn ⊢; refine LR.back (h1.newSl hn) ?_; clear hn h1) | (refine CallsTo.mono (show CallsTo Try.prog 24 [threeP.val (threeA b1 b2), .int .i64 2, .slice (some ⟨bk, 0, none⟩) 3 3] w1 _ from m24 threeP (threeA b1 b2) threeI 2 knownW (some ⟨bk, 0, none⟩) 3 w1 (thR (h1.holds (both (thr1 b1) (thr2 b2)) memZ)) (h1.rd_of_blk memZ) (by decide)) ?_; rintro v w2 ⟨a9, c9, rfl, hn⟩; rw [w_view2] at hn ⊢; refine LR.back (h1.newSl hn) ?_; clear hn h1) | (refine CallsTo.mono (show CallsTo Try.prog 27 [.slice none 0 0, (plcA 1 24).val] w1 _ from m27 sort_few [] none 0 (plcA 1 24) w1 (Rd.nil _ _) (fun _ => rfl) (by decide) (by decide) (by decide)) ?_; rintro v w2 ⟨a10, c10, rfl, hn⟩; rw [w_lrn] at hn ⊢; refine LR.back (h1.newSl hn) ?_; clear hn h1))))
  apply At.pdone (ds := [25]) rfl
  · repeat (first | exact MixR.base _ | (apply MixR.upd; case hd => exact rfl))
  · repeat (first | exact Tl.nil | apply Tl.cons)
  · exact (fun A w' hA => St.sub hA (by simp only [List.cons_append, List.nil_append]; repeat (first | exact List.nil_sublist _ | exact List.Sublist.refl _ | apply List.Sublist.cons_cons | apply List.Sublist.cons)))
  refine DP.take 12 25 (fun b => .slice (some ⟨b, 0, none⟩) 2 2) (fun b => [.own b (.cells ([.int .i64 3, .int .i64 5] : List Value).toArray 3 (0, 0))]) [] [25] [[22]] rfl rfl rfl rfl rfl rfl rfl (by decide +kernel) ⟨⟨rfl, trivial⟩, fun _ _ _ => trivial, trivial⟩ (fun A w' hA => St.sub hA (by simp only [List.cons_append, List.nil_append]; repeat (first | exact List.nil_sublist _ | exact List.Sublist.refl _ | apply List.Sublist.cons_cons | apply List.Sublist.cons))) (fun bp25 => ?_)
  refine DP.nil ?_
  refine DW.castL (by simp only [List.cons_append, List.nil_append]; exact rfl) ?_
  all_goals (
    apply DW.loud 13
    · exact rfl
    · decide +kernel
    repeat'(first|refine kg' ?_|refine kG' ?_|apply kM|refine kv' ?_|refine kK' fun _=>?_|refine kU' ?_|refine kB' fun _=>?_|refine kA' fun _=>?_|(apply kq; (· exact rfl); (· intro w1 h1; first | (have hq := CallsTo.q (m13 threeP (threeA b1 b2) w1 (thR (h1.holds (both (thr1 b1) (thr2 b2)) memZ)) threeI) h1; rw [w_chk] at hq; exact hq) | (have hq := CallsTo.q (m15 threeP (threeA b1 b2) 3 0 w1 (thR (h1.holds (both (thr1 b1) (thr2 b2)) memZ)) threeI) h1; rw [w_far] at hq; exact hq) | exact CallsTo.q (m34 0 14 w1 (by decide)) h1 | exact CallsTo.q (m34 1 24 w1 (by decide)) h1 | exact CallsTo.q (m34 2 96 w1 (by decide)) h1 | exact CallsTo.q (show CallsTo Try.prog 17 [.slice a7 2 c7, .slice _ 2 2] w1 _ from t19 a7 _ c7 2 [0, 1] [0, 1] w1 (h1.rd_of_own memZ) (h1.rd_of_blk memZ) (by decide)) h1 | exact CallsTo.q (show CallsTo Try.prog 17 [.slice a8 2 c8, .slice _ 2 2] w1 _ from t19 a8 _ c8 2 [3, 5] [3, 5] w1 (h1.rd_of_own memZ) (h1.rd_of_blk memZ) (by decide)) h1 | exact CallsTo.q (show CallsTo Try.prog 25 [.slice a9 2 c9, .slice (some ⟨bk, 0, none⟩) 2 3] w1 _ from m25 a9 (some ⟨bk, 0, none⟩) c9 3 [plcA 0 14, plcA 1 24] [plcA 0 14, plcA 1 24] w1 (h1.rd_of_own memZ) (Rd.take 8 (h1.rd_of_blk (b := bk) (cs := pcs knownW) memZ)) (by decide)) h1 | exact CallsTo.q (show CallsTo Try.prog 25 [.slice a9 1 c9, .slice (some ⟨bk, 8, none⟩) 1 1] w1 _ from m25 a9 (some ⟨bk, 8, none⟩) c9 1 [plcA 2 96] [plcA 2 96] w1 (h1.rd_of_own memZ) (rd_from8 (h1.rd_of_blk (b := bk) (cs := pcs knownW) memZ)) (by decide)) h1))|(apply LR.call; (· exact rfl); (intro w1 h1; first | (refine CallsTo.mono (show CallsTo Try.prog 33 [] w1 _ from m33 w1) ?_; rintro v w2 ⟨b1, b2, rfl, hn⟩; refine LR.back (h1.got hn th_dep) ?_; clear hn h1) | (refine CallsTo.mono (show CallsTo Try.prog 18 [threeP.val (threeA b1 b2), .int .i64 3] w1 _ from m18 threeP (threeA b1 b2) 3 w1 (thR (h1.holds (both (thr1 b1) (thr2 b2)) memZ)) threeI) ?_; rintro v w2 ⟨a7, c7, rfl, hn⟩; rw [w_sides] at hn ⊢; refine LR.back (h1.newSl hn) ?_; clear hn h1) | (refine CallsTo.mono (show CallsTo Try.prog 20 [threeP.val (threeA b1 b2), .int .i64 1] w1 _ from m20 threeP (threeA b1 b2) 1 w1 (thR (h1.holds (both (thr1 b1) (thr2 b2)) memZ)) threeI) ?_; rintro v w2 ⟨a8, c8, rfl, hn⟩; rw [w_gws] at hn ⊢; refine LR.back (h1.newSl hn) ?_; clear hn h1) | (refine CallsTo.mono (show CallsTo Try.prog 24 [threeP.val (threeA b1 b2), .int .i64 0, .slice (some ⟨bk, 0, none⟩) 3 3] w1 _ from m24 threeP (threeA b1 b2) threeI 0 knownW (some ⟨bk, 0, none⟩) 3 w1 (thR (h1.holds (both (thr1 b1) (thr2 b2)) memZ)) (h1.rd_of_blk memZ) (by decide)) ?_; rintro v w2 ⟨a9, c9, rfl, hn⟩; rw [w_view0] at hn ⊢; refine LR.back (h1.newSl hn) ?_; clear hn h1) | (refine CallsTo.mono (show CallsTo Try.prog 24 [threeP.val (threeA b1 b2), .int .i64 2, .slice (some ⟨bk, 0, none⟩) 3 3] w1 _ from m24 threeP (threeA b1 b2) threeI 2 knownW (some ⟨bk, 0, none⟩) 3 w1 (thR (h1.holds (both (thr1 b1) (thr2 b2)) memZ)) (h1.rd_of_blk memZ) (by decide)) ?_; rintro v w2 ⟨a9, c9, rfl, hn⟩; rw [w_view2] at hn ⊢; refine LR.back (h1.newSl hn) ?_; clear hn h1) | (refine CallsTo.mono (show CallsTo Try.prog 27 [.slice none 0 0, (plcA 1 24).val] w1 _ from m27 sort_few [] none 0 (plcA 1 24) w1 (Rd.nil _ _) (fun _ => rfl) (by decide) (by decide) (by decide)) ?_; rintro v w2 ⟨a10, c10, rfl, hn⟩; rw [w_lrn] at hn ⊢; refine LR.back (h1.newSl hn) ?_; clear hn h1))))
    all_goals (refine At.stage_same (fun _ h => St.sub h subZ) ?_))
  all_goals (
    apply DW.quiet [14, 15, 16, 17, 18, 19, 20, 21, 22, 24, 26, 27]
    · decide +kernel
    · first | exact fun _ h => h | exact fun _ h => St.sub h subZ
    repeat'(first|(apply QL.evg; (iterate 3 exact rfl); (· apply Ev_hi; (· exact rfl); (· exact rfl); (· decide); (· decide)); (· exact rfl))|(apply QL.evg; (iterate 3 exact rfl); (· apply Ev_lo; (· exact rfl); (· exact rfl); (· decide); (· decide); (· decide)); (· exact rfl))|refine yv' ?_|refine uv' ?_|refine un' ?_|(refine us' ?_ ?_;all_goals(intro hc;try simp only[hcs]at hc;try(exfalso;first|contradiction|omega)))|apply QL.nil)
    all_goals (show DW _ _ _ _ _ _ _ _))
  all_goals (
    apply DW.loud 23
    · exact rfl
    · decide +kernel
    repeat'(first|refine kg' ?_|refine kG' ?_|apply kM|refine kv' ?_|refine kK' fun _=>?_|refine kU' ?_|refine kB' fun _=>?_|refine kA' fun _=>?_|(apply kq; (· exact rfl); (· intro w1 h1; first | (have hq := CallsTo.q (m13 threeP (threeA b1 b2) w1 (thR (h1.holds (both (thr1 b1) (thr2 b2)) memZ)) threeI) h1; rw [w_chk] at hq; exact hq) | (have hq := CallsTo.q (m15 threeP (threeA b1 b2) 3 0 w1 (thR (h1.holds (both (thr1 b1) (thr2 b2)) memZ)) threeI) h1; rw [w_far] at hq; exact hq) | exact CallsTo.q (m34 0 14 w1 (by decide)) h1 | exact CallsTo.q (m34 1 24 w1 (by decide)) h1 | exact CallsTo.q (m34 2 96 w1 (by decide)) h1 | exact CallsTo.q (show CallsTo Try.prog 17 [.slice a7 2 c7, .slice _ 2 2] w1 _ from t19 a7 _ c7 2 [0, 1] [0, 1] w1 (h1.rd_of_own memZ) (h1.rd_of_blk memZ) (by decide)) h1 | exact CallsTo.q (show CallsTo Try.prog 17 [.slice a8 2 c8, .slice _ 2 2] w1 _ from t19 a8 _ c8 2 [3, 5] [3, 5] w1 (h1.rd_of_own memZ) (h1.rd_of_blk memZ) (by decide)) h1 | exact CallsTo.q (show CallsTo Try.prog 25 [.slice a9 2 c9, .slice (some ⟨bk, 0, none⟩) 2 3] w1 _ from m25 a9 (some ⟨bk, 0, none⟩) c9 3 [plcA 0 14, plcA 1 24] [plcA 0 14, plcA 1 24] w1 (h1.rd_of_own memZ) (Rd.take 8 (h1.rd_of_blk (b := bk) (cs := pcs knownW) memZ)) (by decide)) h1 | exact CallsTo.q (show CallsTo Try.prog 25 [.slice a9 1 c9, .slice (some ⟨bk, 8, none⟩) 1 1] w1 _ from m25 a9 (some ⟨bk, 8, none⟩) c9 1 [plcA 2 96] [plcA 2 96] w1 (h1.rd_of_own memZ) (rd_from8 (h1.rd_of_blk (b := bk) (cs := pcs knownW) memZ)) (by decide)) h1))|(apply LR.call; (· exact rfl); (intro w1 h1; first | (refine CallsTo.mono (show CallsTo Try.prog 33 [] w1 _ from m33 w1) ?_; rintro v w2 ⟨b1, b2, rfl, hn⟩; refine LR.back (h1.got hn th_dep) ?_; clear hn h1) | (refine CallsTo.mono (show CallsTo Try.prog 18 [threeP.val (threeA b1 b2), .int .i64 3] w1 _ from m18 threeP (threeA b1 b2) 3 w1 (thR (h1.holds (both (thr1 b1) (thr2 b2)) memZ)) threeI) ?_; rintro v w2 ⟨a7, c7, rfl, hn⟩; rw [w_sides] at hn ⊢; refine LR.back (h1.newSl hn) ?_; clear hn h1) | (refine CallsTo.mono (show CallsTo Try.prog 20 [threeP.val (threeA b1 b2), .int .i64 1] w1 _ from m20 threeP (threeA b1 b2) 1 w1 (thR (h1.holds (both (thr1 b1) (thr2 b2)) memZ)) threeI) ?_; rintro v w2 ⟨a8, c8, rfl, hn⟩; rw [w_gws] at hn ⊢; refine LR.back (h1.newSl hn) ?_; clear hn h1) | (refine CallsTo.mono (show CallsTo Try.prog 24 [threeP.val (threeA b1 b2), .int .i64 0, .slice (some ⟨bk, 0, none⟩) 3 3] w1 _ from m24 threeP (threeA b1 b2) threeI 0 knownW (some ⟨bk, 0, none⟩) 3 w1 (thR (h1.holds (both (thr1 b1) (thr2 b2)) memZ)) (h1.rd_of_blk memZ) (by decide)) ?_; rintro v w2 ⟨a9, c9, rfl, hn⟩; rw [w_view0] at hn ⊢; refine LR.back (h1.newSl hn) ?_; clear hn h1) | (refine CallsTo.mono (show CallsTo Try.prog 24 [threeP.val (threeA b1 b2), .int .i64 2, .slice (some ⟨bk, 0, none⟩) 3 3] w1 _ from m24 threeP (threeA b1 b2) threeI 2 knownW (some ⟨bk, 0, none⟩) 3 w1 (thR (h1.holds (both (thr1 b1) (thr2 b2)) memZ)) (h1.rd_of_blk memZ) (by decide)) ?_; rintro v w2 ⟨a9, c9, rfl, hn⟩; rw [w_view2] at hn ⊢; refine LR.back (h1.newSl hn) ?_; clear hn h1) | (refine CallsTo.mono (show CallsTo Try.prog 27 [.slice none 0 0, (plcA 1 24).val] w1 _ from m27 sort_few [] none 0 (plcA 1 24) w1 (Rd.nil _ _) (fun _ => rfl) (by decide) (by decide) (by decide)) ?_; rintro v w2 ⟨a10, c10, rfl, hn⟩; rw [w_lrn] at hn ⊢; refine LR.back (h1.newSl hn) ?_; clear hn h1))))
    all_goals (refine At.stage_same (fun _ h => St.sub h subZ) ?_))
  all_goals (
    apply DW.loud 25
    · exact rfl
    · decide +kernel
    repeat'(first|refine kg' ?_|refine kG' ?_|apply kM|refine kv' ?_|refine kK' fun _=>?_|refine kU' ?_|refine kB' fun _=>?_|refine kA' fun _=>?_|(apply kq; (· exact rfl); (· intro w1 h1; first | (have hq := CallsTo.q (m13 threeP (threeA b1 b2) w1 (thR (h1.holds (both (thr1 b1) (thr2 b2)) memZ)) threeI) h1; rw [w_chk] at hq; exact hq) | (have hq := CallsTo.q (m15 threeP (threeA b1 b2) 3 0 w1 (thR (h1.holds (both (thr1 b1) (thr2 b2)) memZ)) threeI) h1; rw [w_far] at hq; exact hq) | exact CallsTo.q (m34 0 14 w1 (by decide)) h1 | exact CallsTo.q (m34 1 24 w1 (by decide)) h1 | exact CallsTo.q (m34 2 96 w1 (by decide)) h1 | exact CallsTo.q (show CallsTo Try.prog 17 [.slice a7 2 c7, .slice _ 2 2] w1 _ from t19 a7 _ c7 2 [0, 1] [0, 1] w1 (h1.rd_of_own memZ) (h1.rd_of_blk memZ) (by decide)) h1 | exact CallsTo.q (show CallsTo Try.prog 17 [.slice a8 2 c8, .slice _ 2 2] w1 _ from t19 a8 _ c8 2 [3, 5] [3, 5] w1 (h1.rd_of_own memZ) (h1.rd_of_blk memZ) (by decide)) h1 | exact CallsTo.q (show CallsTo Try.prog 25 [.slice a9 2 c9, .slice (some ⟨bk, 0, none⟩) 2 3] w1 _ from m25 a9 (some ⟨bk, 0, none⟩) c9 3 [plcA 0 14, plcA 1 24] [plcA 0 14, plcA 1 24] w1 (h1.rd_of_own memZ) (Rd.take 8 (h1.rd_of_blk (b := bk) (cs := pcs knownW) memZ)) (by decide)) h1 | exact CallsTo.q (show CallsTo Try.prog 25 [.slice a9 1 c9, .slice (some ⟨bk, 8, none⟩) 1 1] w1 _ from m25 a9 (some ⟨bk, 8, none⟩) c9 1 [plcA 2 96] [plcA 2 96] w1 (h1.rd_of_own memZ) (rd_from8 (h1.rd_of_blk (b := bk) (cs := pcs knownW) memZ)) (by decide)) h1))|(apply LR.call; (· exact rfl); (intro w1 h1; first | (refine CallsTo.mono (show CallsTo Try.prog 33 [] w1 _ from m33 w1) ?_; rintro v w2 ⟨b1, b2, rfl, hn⟩; refine LR.back (h1.got hn th_dep) ?_; clear hn h1) | (refine CallsTo.mono (show CallsTo Try.prog 18 [threeP.val (threeA b1 b2), .int .i64 3] w1 _ from m18 threeP (threeA b1 b2) 3 w1 (thR (h1.holds (both (thr1 b1) (thr2 b2)) memZ)) threeI) ?_; rintro v w2 ⟨a7, c7, rfl, hn⟩; rw [w_sides] at hn ⊢; refine LR.back (h1.newSl hn) ?_; clear hn h1) | (refine CallsTo.mono (show CallsTo Try.prog 20 [threeP.val (threeA b1 b2), .int .i64 1] w1 _ from m20 threeP (threeA b1 b2) 1 w1 (thR (h1.holds (both (thr1 b1) (thr2 b2)) memZ)) threeI) ?_; rintro v w2 ⟨a8, c8, rfl, hn⟩; rw [w_gws] at hn ⊢; refine LR.back (h1.newSl hn) ?_; clear hn h1) | (refine CallsTo.mono (show CallsTo Try.prog 24 [threeP.val (threeA b1 b2), .int .i64 0, .slice (some ⟨bk, 0, none⟩) 3 3] w1 _ from m24 threeP (threeA b1 b2) threeI 0 knownW (some ⟨bk, 0, none⟩) 3 w1 (thR (h1.holds (both (thr1 b1) (thr2 b2)) memZ)) (h1.rd_of_blk memZ) (by decide)) ?_; rintro v w2 ⟨a9, c9, rfl, hn⟩; rw [w_view0] at hn ⊢; refine LR.back (h1.newSl hn) ?_; clear hn h1) | (refine CallsTo.mono (show CallsTo Try.prog 24 [threeP.val (threeA b1 b2), .int .i64 2, .slice (some ⟨bk, 0, none⟩) 3 3] w1 _ from m24 threeP (threeA b1 b2) threeI 2 knownW (some ⟨bk, 0, none⟩) 3 w1 (thR (h1.holds (both (thr1 b1) (thr2 b2)) memZ)) (h1.rd_of_blk memZ) (by decide)) ?_; rintro v w2 ⟨a9, c9, rfl, hn⟩; rw [w_view2] at hn ⊢; refine LR.back (h1.newSl hn) ?_; clear hn h1) | (refine CallsTo.mono (show CallsTo Try.prog 27 [.slice none 0 0, (plcA 1 24).val] w1 _ from m27 sort_few [] none 0 (plcA 1 24) w1 (Rd.nil _ _) (fun _ => rfl) (by decide) (by decide) (by decide)) ?_; rintro v w2 ⟨a10, c10, rfl, hn⟩; rw [w_lrn] at hn ⊢; refine LR.back (h1.newSl hn) ?_; clear hn h1))))
    all_goals (refine At.stage_same (fun _ h => St.sub h subZ) ?_))
  all_goals (
    apply DW.loud 28
    · exact rfl
    · decide +kernel
    repeat'(first|refine kg' ?_|refine kG' ?_|apply kM|refine kv' ?_|refine kK' fun _=>?_|refine kU' ?_|refine kB' fun _=>?_|refine kA' fun _=>?_|(apply kq; (· exact rfl); (· intro w1 h1; first | (have hq := CallsTo.q (m13 threeP (threeA b1 b2) w1 (thR (h1.holds (both (thr1 b1) (thr2 b2)) memZ)) threeI) h1; rw [w_chk] at hq; exact hq) | (have hq := CallsTo.q (m15 threeP (threeA b1 b2) 3 0 w1 (thR (h1.holds (both (thr1 b1) (thr2 b2)) memZ)) threeI) h1; rw [w_far] at hq; exact hq) | exact CallsTo.q (m34 0 14 w1 (by decide)) h1 | exact CallsTo.q (m34 1 24 w1 (by decide)) h1 | exact CallsTo.q (m34 2 96 w1 (by decide)) h1 | exact CallsTo.q (show CallsTo Try.prog 17 [.slice a7 2 c7, .slice _ 2 2] w1 _ from t19 a7 _ c7 2 [0, 1] [0, 1] w1 (h1.rd_of_own memZ) (h1.rd_of_blk memZ) (by decide)) h1 | exact CallsTo.q (show CallsTo Try.prog 17 [.slice a8 2 c8, .slice _ 2 2] w1 _ from t19 a8 _ c8 2 [3, 5] [3, 5] w1 (h1.rd_of_own memZ) (h1.rd_of_blk memZ) (by decide)) h1 | exact CallsTo.q (show CallsTo Try.prog 25 [.slice a9 2 c9, .slice (some ⟨bk, 0, none⟩) 2 3] w1 _ from m25 a9 (some ⟨bk, 0, none⟩) c9 3 [plcA 0 14, plcA 1 24] [plcA 0 14, plcA 1 24] w1 (h1.rd_of_own memZ) (Rd.take 8 (h1.rd_of_blk (b := bk) (cs := pcs knownW) memZ)) (by decide)) h1 | exact CallsTo.q (show CallsTo Try.prog 25 [.slice a9 1 c9, .slice (some ⟨bk, 8, none⟩) 1 1] w1 _ from m25 a9 (some ⟨bk, 8, none⟩) c9 1 [plcA 2 96] [plcA 2 96] w1 (h1.rd_of_own memZ) (rd_from8 (h1.rd_of_blk (b := bk) (cs := pcs knownW) memZ)) (by decide)) h1))|(apply LR.call; (· exact rfl); (intro w1 h1; first | (refine CallsTo.mono (show CallsTo Try.prog 33 [] w1 _ from m33 w1) ?_; rintro v w2 ⟨b1, b2, rfl, hn⟩; refine LR.back (h1.got hn th_dep) ?_; clear hn h1) | (refine CallsTo.mono (show CallsTo Try.prog 18 [threeP.val (threeA b1 b2), .int .i64 3] w1 _ from m18 threeP (threeA b1 b2) 3 w1 (thR (h1.holds (both (thr1 b1) (thr2 b2)) memZ)) threeI) ?_; rintro v w2 ⟨a7, c7, rfl, hn⟩; rw [w_sides] at hn ⊢; refine LR.back (h1.newSl hn) ?_; clear hn h1) | (refine CallsTo.mono (show CallsTo Try.prog 20 [threeP.val (threeA b1 b2), .int .i64 1] w1 _ from m20 threeP (threeA b1 b2) 1 w1 (thR (h1.holds (both (thr1 b1) (thr2 b2)) memZ)) threeI) ?_; rintro v w2 ⟨a8, c8, rfl, hn⟩; rw [w_gws] at hn ⊢; refine LR.back (h1.newSl hn) ?_; clear hn h1) | (refine CallsTo.mono (show CallsTo Try.prog 24 [threeP.val (threeA b1 b2), .int .i64 0, .slice (some ⟨bk, 0, none⟩) 3 3] w1 _ from m24 threeP (threeA b1 b2) threeI 0 knownW (some ⟨bk, 0, none⟩) 3 w1 (thR (h1.holds (both (thr1 b1) (thr2 b2)) memZ)) (h1.rd_of_blk memZ) (by decide)) ?_; rintro v w2 ⟨a9, c9, rfl, hn⟩; rw [w_view0] at hn ⊢; refine LR.back (h1.newSl hn) ?_; clear hn h1) | (refine CallsTo.mono (show CallsTo Try.prog 24 [threeP.val (threeA b1 b2), .int .i64 2, .slice (some ⟨bk, 0, none⟩) 3 3] w1 _ from m24 threeP (threeA b1 b2) threeI 2 knownW (some ⟨bk, 0, none⟩) 3 w1 (thR (h1.holds (both (thr1 b1) (thr2 b2)) memZ)) (h1.rd_of_blk memZ) (by decide)) ?_; rintro v w2 ⟨a9, c9, rfl, hn⟩; rw [w_view2] at hn ⊢; refine LR.back (h1.newSl hn) ?_; clear hn h1) | (refine CallsTo.mono (show CallsTo Try.prog 27 [.slice none 0 0, (plcA 1 24).val] w1 _ from m27 sort_few [] none 0 (plcA 1 24) w1 (Rd.nil _ _) (fun _ => rfl) (by decide) (by decide) (by decide)) ?_; rintro v w2 ⟨a10, c10, rfl, hn⟩; rw [w_lrn] at hn ⊢; refine LR.back (h1.newSl hn) ?_; clear hn h1))))
    all_goals (refine At.stage_same (fun _ h => St.sub h subZ) ?_))
  all_goals (
    apply DW.quiet [29, 30, 32, 34, 35]
    · decide +kernel
    · first | exact fun _ h => h | exact fun _ h => St.sub h subZ
    repeat'(first|(apply QL.evg; (iterate 3 exact rfl); (· apply Ev_hi; (· exact rfl); (· exact rfl); (· decide); (· decide)); (· exact rfl))|(apply QL.evg; (iterate 3 exact rfl); (· apply Ev_lo; (· exact rfl); (· exact rfl); (· decide); (· decide); (· decide)); (· exact rfl))|refine yv' ?_|refine uv' ?_|refine un' ?_|(refine us' ?_ ?_;all_goals(intro hc;try simp only[hcs]at hc;try(exfalso;first|contradiction|omega)))|apply QL.nil)
    all_goals (show DW _ _ _ _ _ _ _ _))
  all_goals (
    apply DW.loud 31
    · exact rfl
    · decide +kernel
    repeat'(first|refine kg' ?_|refine kG' ?_|apply kM|refine kv' ?_|refine kK' fun _=>?_|refine kU' ?_|refine kB' fun _=>?_|refine kA' fun _=>?_|(apply kq; (· exact rfl); (· intro w1 h1; first | (have hq := CallsTo.q (m13 threeP (threeA b1 b2) w1 (thR (h1.holds (both (thr1 b1) (thr2 b2)) memZ)) threeI) h1; rw [w_chk] at hq; exact hq) | (have hq := CallsTo.q (m15 threeP (threeA b1 b2) 3 0 w1 (thR (h1.holds (both (thr1 b1) (thr2 b2)) memZ)) threeI) h1; rw [w_far] at hq; exact hq) | exact CallsTo.q (m34 0 14 w1 (by decide)) h1 | exact CallsTo.q (m34 1 24 w1 (by decide)) h1 | exact CallsTo.q (m34 2 96 w1 (by decide)) h1 | exact CallsTo.q (show CallsTo Try.prog 17 [.slice a7 2 c7, .slice _ 2 2] w1 _ from t19 a7 _ c7 2 [0, 1] [0, 1] w1 (h1.rd_of_own memZ) (h1.rd_of_blk memZ) (by decide)) h1 | exact CallsTo.q (show CallsTo Try.prog 17 [.slice a8 2 c8, .slice _ 2 2] w1 _ from t19 a8 _ c8 2 [3, 5] [3, 5] w1 (h1.rd_of_own memZ) (h1.rd_of_blk memZ) (by decide)) h1 | exact CallsTo.q (show CallsTo Try.prog 25 [.slice a9 2 c9, .slice (some ⟨bk, 0, none⟩) 2 3] w1 _ from m25 a9 (some ⟨bk, 0, none⟩) c9 3 [plcA 0 14, plcA 1 24] [plcA 0 14, plcA 1 24] w1 (h1.rd_of_own memZ) (Rd.take 8 (h1.rd_of_blk (b := bk) (cs := pcs knownW) memZ)) (by decide)) h1 | exact CallsTo.q (show CallsTo Try.prog 25 [.slice a9 1 c9, .slice (some ⟨bk, 8, none⟩) 1 1] w1 _ from m25 a9 (some ⟨bk, 8, none⟩) c9 1 [plcA 2 96] [plcA 2 96] w1 (h1.rd_of_own memZ) (rd_from8 (h1.rd_of_blk (b := bk) (cs := pcs knownW) memZ)) (by decide)) h1))|(apply LR.call; (· exact rfl); (intro w1 h1; first | (refine CallsTo.mono (show CallsTo Try.prog 33 [] w1 _ from m33 w1) ?_; rintro v w2 ⟨b1, b2, rfl, hn⟩; refine LR.back (h1.got hn th_dep) ?_; clear hn h1) | (refine CallsTo.mono (show CallsTo Try.prog 18 [threeP.val (threeA b1 b2), .int .i64 3] w1 _ from m18 threeP (threeA b1 b2) 3 w1 (thR (h1.holds (both (thr1 b1) (thr2 b2)) memZ)) threeI) ?_; rintro v w2 ⟨a7, c7, rfl, hn⟩; rw [w_sides] at hn ⊢; refine LR.back (h1.newSl hn) ?_; clear hn h1) | (refine CallsTo.mono (show CallsTo Try.prog 20 [threeP.val (threeA b1 b2), .int .i64 1] w1 _ from m20 threeP (threeA b1 b2) 1 w1 (thR (h1.holds (both (thr1 b1) (thr2 b2)) memZ)) threeI) ?_; rintro v w2 ⟨a8, c8, rfl, hn⟩; rw [w_gws] at hn ⊢; refine LR.back (h1.newSl hn) ?_; clear hn h1) | (refine CallsTo.mono (show CallsTo Try.prog 24 [threeP.val (threeA b1 b2), .int .i64 0, .slice (some ⟨bk, 0, none⟩) 3 3] w1 _ from m24 threeP (threeA b1 b2) threeI 0 knownW (some ⟨bk, 0, none⟩) 3 w1 (thR (h1.holds (both (thr1 b1) (thr2 b2)) memZ)) (h1.rd_of_blk memZ) (by decide)) ?_; rintro v w2 ⟨a9, c9, rfl, hn⟩; rw [w_view0] at hn ⊢; refine LR.back (h1.newSl hn) ?_; clear hn h1) | (refine CallsTo.mono (show CallsTo Try.prog 24 [threeP.val (threeA b1 b2), .int .i64 2, .slice (some ⟨bk, 0, none⟩) 3 3] w1 _ from m24 threeP (threeA b1 b2) threeI 2 knownW (some ⟨bk, 0, none⟩) 3 w1 (thR (h1.holds (both (thr1 b1) (thr2 b2)) memZ)) (h1.rd_of_blk memZ) (by decide)) ?_; rintro v w2 ⟨a9, c9, rfl, hn⟩; rw [w_view2] at hn ⊢; refine LR.back (h1.newSl hn) ?_; clear hn h1) | (refine CallsTo.mono (show CallsTo Try.prog 27 [.slice none 0 0, (plcA 1 24).val] w1 _ from m27 sort_few [] none 0 (plcA 1 24) w1 (Rd.nil _ _) (fun _ => rfl) (by decide) (by decide) (by decide)) ?_; rintro v w2 ⟨a10, c10, rfl, hn⟩; rw [w_lrn] at hn ⊢; refine LR.back (h1.newSl hn) ?_; clear hn h1))))
    all_goals (refine At.stage_same (fun _ h => St.sub h subZ) ?_))
  all_goals (
    apply DW.loud 33
    · exact rfl
    · decide +kernel
    repeat'(first|refine kg' ?_|refine kG' ?_|apply kM|refine kv' ?_|refine kK' fun _=>?_|refine kU' ?_|refine kB' fun _=>?_|refine kA' fun _=>?_|(apply kq; (· exact rfl); (· intro w1 h1; first | (have hq := CallsTo.q (m13 threeP (threeA b1 b2) w1 (thR (h1.holds (both (thr1 b1) (thr2 b2)) memZ)) threeI) h1; rw [w_chk] at hq; exact hq) | (have hq := CallsTo.q (m15 threeP (threeA b1 b2) 3 0 w1 (thR (h1.holds (both (thr1 b1) (thr2 b2)) memZ)) threeI) h1; rw [w_far] at hq; exact hq) | exact CallsTo.q (m34 0 14 w1 (by decide)) h1 | exact CallsTo.q (m34 1 24 w1 (by decide)) h1 | exact CallsTo.q (m34 2 96 w1 (by decide)) h1 | exact CallsTo.q (show CallsTo Try.prog 17 [.slice a7 2 c7, .slice _ 2 2] w1 _ from t19 a7 _ c7 2 [0, 1] [0, 1] w1 (h1.rd_of_own memZ) (h1.rd_of_blk memZ) (by decide)) h1 | exact CallsTo.q (show CallsTo Try.prog 17 [.slice a8 2 c8, .slice _ 2 2] w1 _ from t19 a8 _ c8 2 [3, 5] [3, 5] w1 (h1.rd_of_own memZ) (h1.rd_of_blk memZ) (by decide)) h1 | exact CallsTo.q (show CallsTo Try.prog 25 [.slice a9 2 c9, .slice (some ⟨bk, 0, none⟩) 2 3] w1 _ from m25 a9 (some ⟨bk, 0, none⟩) c9 3 [plcA 0 14, plcA 1 24] [plcA 0 14, plcA 1 24] w1 (h1.rd_of_own memZ) (Rd.take 8 (h1.rd_of_blk (b := bk) (cs := pcs knownW) memZ)) (by decide)) h1 | exact CallsTo.q (show CallsTo Try.prog 25 [.slice a9 1 c9, .slice (some ⟨bk, 8, none⟩) 1 1] w1 _ from m25 a9 (some ⟨bk, 8, none⟩) c9 1 [plcA 2 96] [plcA 2 96] w1 (h1.rd_of_own memZ) (rd_from8 (h1.rd_of_blk (b := bk) (cs := pcs knownW) memZ)) (by decide)) h1))|(apply LR.call; (· exact rfl); (intro w1 h1; first | (refine CallsTo.mono (show CallsTo Try.prog 33 [] w1 _ from m33 w1) ?_; rintro v w2 ⟨b1, b2, rfl, hn⟩; refine LR.back (h1.got hn th_dep) ?_; clear hn h1) | (refine CallsTo.mono (show CallsTo Try.prog 18 [threeP.val (threeA b1 b2), .int .i64 3] w1 _ from m18 threeP (threeA b1 b2) 3 w1 (thR (h1.holds (both (thr1 b1) (thr2 b2)) memZ)) threeI) ?_; rintro v w2 ⟨a7, c7, rfl, hn⟩; rw [w_sides] at hn ⊢; refine LR.back (h1.newSl hn) ?_; clear hn h1) | (refine CallsTo.mono (show CallsTo Try.prog 20 [threeP.val (threeA b1 b2), .int .i64 1] w1 _ from m20 threeP (threeA b1 b2) 1 w1 (thR (h1.holds (both (thr1 b1) (thr2 b2)) memZ)) threeI) ?_; rintro v w2 ⟨a8, c8, rfl, hn⟩; rw [w_gws] at hn ⊢; refine LR.back (h1.newSl hn) ?_; clear hn h1) | (refine CallsTo.mono (show CallsTo Try.prog 24 [threeP.val (threeA b1 b2), .int .i64 0, .slice (some ⟨bk, 0, none⟩) 3 3] w1 _ from m24 threeP (threeA b1 b2) threeI 0 knownW (some ⟨bk, 0, none⟩) 3 w1 (thR (h1.holds (both (thr1 b1) (thr2 b2)) memZ)) (h1.rd_of_blk memZ) (by decide)) ?_; rintro v w2 ⟨a9, c9, rfl, hn⟩; rw [w_view0] at hn ⊢; refine LR.back (h1.newSl hn) ?_; clear hn h1) | (refine CallsTo.mono (show CallsTo Try.prog 24 [threeP.val (threeA b1 b2), .int .i64 2, .slice (some ⟨bk, 0, none⟩) 3 3] w1 _ from m24 threeP (threeA b1 b2) threeI 2 knownW (some ⟨bk, 0, none⟩) 3 w1 (thR (h1.holds (both (thr1 b1) (thr2 b2)) memZ)) (h1.rd_of_blk memZ) (by decide)) ?_; rintro v w2 ⟨a9, c9, rfl, hn⟩; rw [w_view2] at hn ⊢; refine LR.back (h1.newSl hn) ?_; clear hn h1) | (refine CallsTo.mono (show CallsTo Try.prog 27 [.slice none 0 0, (plcA 1 24).val] w1 _ from m27 sort_few [] none 0 (plcA 1 24) w1 (Rd.nil _ _) (fun _ => rfl) (by decide) (by decide) (by decide)) ?_; rintro v w2 ⟨a10, c10, rfl, hn⟩; rw [w_lrn] at hn ⊢; refine LR.back (h1.newSl hn) ?_; clear hn h1))))
    all_goals (refine At.stage_same (fun _ h => St.sub h subZ) ?_))
  all_goals (
    apply DW.loud 36
    · exact rfl
    · decide +kernel
    repeat'(first|refine kg' ?_|refine kG' ?_|apply kM|refine kv' ?_|refine kK' fun _=>?_|refine kU' ?_|refine kB' fun _=>?_|refine kA' fun _=>?_|(apply kq; (· exact rfl); (· intro w1 h1; first | (have hq := CallsTo.q (m13 threeP (threeA b1 b2) w1 (thR (h1.holds (both (thr1 b1) (thr2 b2)) memZ)) threeI) h1; rw [w_chk] at hq; exact hq) | (have hq := CallsTo.q (m15 threeP (threeA b1 b2) 3 0 w1 (thR (h1.holds (both (thr1 b1) (thr2 b2)) memZ)) threeI) h1; rw [w_far] at hq; exact hq) | exact CallsTo.q (m34 0 14 w1 (by decide)) h1 | exact CallsTo.q (m34 1 24 w1 (by decide)) h1 | exact CallsTo.q (m34 2 96 w1 (by decide)) h1 | exact CallsTo.q (show CallsTo Try.prog 17 [.slice a7 2 c7, .slice _ 2 2] w1 _ from t19 a7 _ c7 2 [0, 1] [0, 1] w1 (h1.rd_of_own memZ) (h1.rd_of_blk memZ) (by decide)) h1 | exact CallsTo.q (show CallsTo Try.prog 17 [.slice a8 2 c8, .slice _ 2 2] w1 _ from t19 a8 _ c8 2 [3, 5] [3, 5] w1 (h1.rd_of_own memZ) (h1.rd_of_blk memZ) (by decide)) h1 | exact CallsTo.q (show CallsTo Try.prog 25 [.slice a9 2 c9, .slice (some ⟨bk, 0, none⟩) 2 3] w1 _ from m25 a9 (some ⟨bk, 0, none⟩) c9 3 [plcA 0 14, plcA 1 24] [plcA 0 14, plcA 1 24] w1 (h1.rd_of_own memZ) (Rd.take 8 (h1.rd_of_blk (b := bk) (cs := pcs knownW) memZ)) (by decide)) h1 | exact CallsTo.q (show CallsTo Try.prog 25 [.slice a9 1 c9, .slice (some ⟨bk, 8, none⟩) 1 1] w1 _ from m25 a9 (some ⟨bk, 8, none⟩) c9 1 [plcA 2 96] [plcA 2 96] w1 (h1.rd_of_own memZ) (rd_from8 (h1.rd_of_blk (b := bk) (cs := pcs knownW) memZ)) (by decide)) h1))|(apply LR.call; (· exact rfl); (intro w1 h1; first | (refine CallsTo.mono (show CallsTo Try.prog 33 [] w1 _ from m33 w1) ?_; rintro v w2 ⟨b1, b2, rfl, hn⟩; refine LR.back (h1.got hn th_dep) ?_; clear hn h1) | (refine CallsTo.mono (show CallsTo Try.prog 18 [threeP.val (threeA b1 b2), .int .i64 3] w1 _ from m18 threeP (threeA b1 b2) 3 w1 (thR (h1.holds (both (thr1 b1) (thr2 b2)) memZ)) threeI) ?_; rintro v w2 ⟨a7, c7, rfl, hn⟩; rw [w_sides] at hn ⊢; refine LR.back (h1.newSl hn) ?_; clear hn h1) | (refine CallsTo.mono (show CallsTo Try.prog 20 [threeP.val (threeA b1 b2), .int .i64 1] w1 _ from m20 threeP (threeA b1 b2) 1 w1 (thR (h1.holds (both (thr1 b1) (thr2 b2)) memZ)) threeI) ?_; rintro v w2 ⟨a8, c8, rfl, hn⟩; rw [w_gws] at hn ⊢; refine LR.back (h1.newSl hn) ?_; clear hn h1) | (refine CallsTo.mono (show CallsTo Try.prog 24 [threeP.val (threeA b1 b2), .int .i64 0, .slice (some ⟨bk, 0, none⟩) 3 3] w1 _ from m24 threeP (threeA b1 b2) threeI 0 knownW (some ⟨bk, 0, none⟩) 3 w1 (thR (h1.holds (both (thr1 b1) (thr2 b2)) memZ)) (h1.rd_of_blk memZ) (by decide)) ?_; rintro v w2 ⟨a9, c9, rfl, hn⟩; rw [w_view0] at hn ⊢; refine LR.back (h1.newSl hn) ?_; clear hn h1) | (refine CallsTo.mono (show CallsTo Try.prog 24 [threeP.val (threeA b1 b2), .int .i64 2, .slice (some ⟨bk, 0, none⟩) 3 3] w1 _ from m24 threeP (threeA b1 b2) threeI 2 knownW (some ⟨bk, 0, none⟩) 3 w1 (thR (h1.holds (both (thr1 b1) (thr2 b2)) memZ)) (h1.rd_of_blk memZ) (by decide)) ?_; rintro v w2 ⟨a9, c9, rfl, hn⟩; rw [w_view2] at hn ⊢; refine LR.back (h1.newSl hn) ?_; clear hn h1) | (refine CallsTo.mono (show CallsTo Try.prog 27 [.slice none 0 0, (plcA 1 24).val] w1 _ from m27 sort_few [] none 0 (plcA 1 24) w1 (Rd.nil _ _) (fun _ => rfl) (by decide) (by decide) (by decide)) ?_; rintro v w2 ⟨a10, c10, rfl, hn⟩; rw [w_lrn] at hn ⊢; refine LR.back (h1.newSl hn) ?_; clear hn h1))))
    all_goals (refine At.stage_same (fun _ h => St.sub h subZ) ?_))
  all_goals (
    apply DW.quiet [37, 38]
    · decide +kernel
    · first | exact fun _ h => h | exact fun _ h => St.sub h subZ
    repeat'(first|(apply QL.evg; (iterate 3 exact rfl); (· apply Ev_hi; (· exact rfl); (· exact rfl); (· decide); (· decide)); (· exact rfl))|(apply QL.evg; (iterate 3 exact rfl); (· apply Ev_lo; (· exact rfl); (· exact rfl); (· decide); (· decide); (· decide)); (· exact rfl))|refine yv' ?_|refine uv' ?_|refine un' ?_|(refine us' ?_ ?_;all_goals(intro hc;try simp only[hcs]at hc;try(exfalso;first|contradiction|omega)))|apply QL.nil)
    all_goals (show DW _ _ _ _ _ _ _ _))
  all_goals (
    apply DW.loud 39
    · exact rfl
    · decide +kernel
    repeat'(first|refine kg' ?_|refine kG' ?_|apply kM|refine kv' ?_|refine kK' fun _=>?_|refine kU' ?_|refine kB' fun _=>?_|refine kA' fun _=>?_|(apply kq; (· exact rfl); (· intro w1 h1; first | (have hq := CallsTo.q (m13 threeP (threeA b1 b2) w1 (thR (h1.holds (both (thr1 b1) (thr2 b2)) memZ)) threeI) h1; rw [w_chk] at hq; exact hq) | (have hq := CallsTo.q (m15 threeP (threeA b1 b2) 3 0 w1 (thR (h1.holds (both (thr1 b1) (thr2 b2)) memZ)) threeI) h1; rw [w_far] at hq; exact hq) | exact CallsTo.q (m34 0 14 w1 (by decide)) h1 | exact CallsTo.q (m34 1 24 w1 (by decide)) h1 | exact CallsTo.q (m34 2 96 w1 (by decide)) h1 | exact CallsTo.q (show CallsTo Try.prog 17 [.slice a7 2 c7, .slice _ 2 2] w1 _ from t19 a7 _ c7 2 [0, 1] [0, 1] w1 (h1.rd_of_own memZ) (h1.rd_of_blk memZ) (by decide)) h1 | exact CallsTo.q (show CallsTo Try.prog 17 [.slice a8 2 c8, .slice _ 2 2] w1 _ from t19 a8 _ c8 2 [3, 5] [3, 5] w1 (h1.rd_of_own memZ) (h1.rd_of_blk memZ) (by decide)) h1 | exact CallsTo.q (show CallsTo Try.prog 25 [.slice a9 2 c9, .slice (some ⟨bk, 0, none⟩) 2 3] w1 _ from m25 a9 (some ⟨bk, 0, none⟩) c9 3 [plcA 0 14, plcA 1 24] [plcA 0 14, plcA 1 24] w1 (h1.rd_of_own memZ) (Rd.take 8 (h1.rd_of_blk (b := bk) (cs := pcs knownW) memZ)) (by decide)) h1 | exact CallsTo.q (show CallsTo Try.prog 25 [.slice a9 1 c9, .slice (some ⟨bk, 8, none⟩) 1 1] w1 _ from m25 a9 (some ⟨bk, 8, none⟩) c9 1 [plcA 2 96] [plcA 2 96] w1 (h1.rd_of_own memZ) (rd_from8 (h1.rd_of_blk (b := bk) (cs := pcs knownW) memZ)) (by decide)) h1))|(apply LR.call; (· exact rfl); (intro w1 h1; first | (refine CallsTo.mono (show CallsTo Try.prog 33 [] w1 _ from m33 w1) ?_; rintro v w2 ⟨b1, b2, rfl, hn⟩; refine LR.back (h1.got hn th_dep) ?_; clear hn h1) | (refine CallsTo.mono (show CallsTo Try.prog 18 [threeP.val (threeA b1 b2), .int .i64 3] w1 _ from m18 threeP (threeA b1 b2) 3 w1 (thR (h1.holds (both (thr1 b1) (thr2 b2)) memZ)) threeI) ?_; rintro v w2 ⟨a7, c7, rfl, hn⟩; rw [w_sides] at hn ⊢; refine LR.back (h1.newSl hn) ?_; clear hn h1) | (refine CallsTo.mono (show CallsTo Try.prog 20 [threeP.val (threeA b1 b2), .int .i64 1] w1 _ from m20 threeP (threeA b1 b2) 1 w1 (thR (h1.holds (both (thr1 b1) (thr2 b2)) memZ)) threeI) ?_; rintro v w2 ⟨a8, c8, rfl, hn⟩; rw [w_gws] at hn ⊢; refine LR.back (h1.newSl hn) ?_; clear hn h1) | (refine CallsTo.mono (show CallsTo Try.prog 24 [threeP.val (threeA b1 b2), .int .i64 0, .slice (some ⟨bk, 0, none⟩) 3 3] w1 _ from m24 threeP (threeA b1 b2) threeI 0 knownW (some ⟨bk, 0, none⟩) 3 w1 (thR (h1.holds (both (thr1 b1) (thr2 b2)) memZ)) (h1.rd_of_blk memZ) (by decide)) ?_; rintro v w2 ⟨a9, c9, rfl, hn⟩; rw [w_view0] at hn ⊢; refine LR.back (h1.newSl hn) ?_; clear hn h1) | (refine CallsTo.mono (show CallsTo Try.prog 24 [threeP.val (threeA b1 b2), .int .i64 2, .slice (some ⟨bk, 0, none⟩) 3 3] w1 _ from m24 threeP (threeA b1 b2) threeI 2 knownW (some ⟨bk, 0, none⟩) 3 w1 (thR (h1.holds (both (thr1 b1) (thr2 b2)) memZ)) (h1.rd_of_blk memZ) (by decide)) ?_; rintro v w2 ⟨a9, c9, rfl, hn⟩; rw [w_view2] at hn ⊢; refine LR.back (h1.newSl hn) ?_; clear hn h1) | (refine CallsTo.mono (show CallsTo Try.prog 27 [.slice none 0 0, (plcA 1 24).val] w1 _ from m27 sort_few [] none 0 (plcA 1 24) w1 (Rd.nil _ _) (fun _ => rfl) (by decide) (by decide) (by decide)) ?_; rintro v w2 ⟨a10, c10, rfl, hn⟩; rw [w_lrn] at hn ⊢; refine LR.back (h1.newSl hn) ?_; clear hn h1))))
    all_goals (refine At.stage_same (fun _ h => St.sub h subZ) ?_))
  all_goals (
    apply DW.loud 40
    · exact rfl
    · decide +kernel
    repeat'(first|refine kg' ?_|refine kG' ?_|apply kM|refine kv' ?_|refine kK' fun _=>?_|refine kU' ?_|refine kB' fun _=>?_|refine kA' fun _=>?_|(apply kq; (· exact rfl); (· intro w1 h1; first | (have hq := CallsTo.q (m13 threeP (threeA b1 b2) w1 (thR (h1.holds (both (thr1 b1) (thr2 b2)) memZ)) threeI) h1; rw [w_chk] at hq; exact hq) | (have hq := CallsTo.q (m15 threeP (threeA b1 b2) 3 0 w1 (thR (h1.holds (both (thr1 b1) (thr2 b2)) memZ)) threeI) h1; rw [w_far] at hq; exact hq) | exact CallsTo.q (m34 0 14 w1 (by decide)) h1 | exact CallsTo.q (m34 1 24 w1 (by decide)) h1 | exact CallsTo.q (m34 2 96 w1 (by decide)) h1 | exact CallsTo.q (show CallsTo Try.prog 17 [.slice a7 2 c7, .slice _ 2 2] w1 _ from t19 a7 _ c7 2 [0, 1] [0, 1] w1 (h1.rd_of_own memZ) (h1.rd_of_blk memZ) (by decide)) h1 | exact CallsTo.q (show CallsTo Try.prog 17 [.slice a8 2 c8, .slice _ 2 2] w1 _ from t19 a8 _ c8 2 [3, 5] [3, 5] w1 (h1.rd_of_own memZ) (h1.rd_of_blk memZ) (by decide)) h1 | exact CallsTo.q (show CallsTo Try.prog 25 [.slice a9 2 c9, .slice (some ⟨bk, 0, none⟩) 2 3] w1 _ from m25 a9 (some ⟨bk, 0, none⟩) c9 3 [plcA 0 14, plcA 1 24] [plcA 0 14, plcA 1 24] w1 (h1.rd_of_own memZ) (Rd.take 8 (h1.rd_of_blk (b := bk) (cs := pcs knownW) memZ)) (by decide)) h1 | exact CallsTo.q (show CallsTo Try.prog 25 [.slice a9 1 c9, .slice (some ⟨bk, 8, none⟩) 1 1] w1 _ from m25 a9 (some ⟨bk, 8, none⟩) c9 1 [plcA 2 96] [plcA 2 96] w1 (h1.rd_of_own memZ) (rd_from8 (h1.rd_of_blk (b := bk) (cs := pcs knownW) memZ)) (by decide)) h1))|(apply LR.call; (· exact rfl); (intro w1 h1; first | (refine CallsTo.mono (show CallsTo Try.prog 33 [] w1 _ from m33 w1) ?_; rintro v w2 ⟨b1, b2, rfl, hn⟩; refine LR.back (h1.got hn th_dep) ?_; clear hn h1) | (refine CallsTo.mono (show CallsTo Try.prog 18 [threeP.val (threeA b1 b2), .int .i64 3] w1 _ from m18 threeP (threeA b1 b2) 3 w1 (thR (h1.holds (both (thr1 b1) (thr2 b2)) memZ)) threeI) ?_; rintro v w2 ⟨a7, c7, rfl, hn⟩; rw [w_sides] at hn ⊢; refine LR.back (h1.newSl hn) ?_; clear hn h1) | (refine CallsTo.mono (show CallsTo Try.prog 20 [threeP.val (threeA b1 b2), .int .i64 1] w1 _ from m20 threeP (threeA b1 b2) 1 w1 (thR (h1.holds (both (thr1 b1) (thr2 b2)) memZ)) threeI) ?_; rintro v w2 ⟨a8, c8, rfl, hn⟩; rw [w_gws] at hn ⊢; refine LR.back (h1.newSl hn) ?_; clear hn h1) | (refine CallsTo.mono (show CallsTo Try.prog 24 [threeP.val (threeA b1 b2), .int .i64 0, .slice (some ⟨bk, 0, none⟩) 3 3] w1 _ from m24 threeP (threeA b1 b2) threeI 0 knownW (some ⟨bk, 0, none⟩) 3 w1 (thR (h1.holds (both (thr1 b1) (thr2 b2)) memZ)) (h1.rd_of_blk memZ) (by decide)) ?_; rintro v w2 ⟨a9, c9, rfl, hn⟩; rw [w_view0] at hn ⊢; refine LR.back (h1.newSl hn) ?_; clear hn h1) | (refine CallsTo.mono (show CallsTo Try.prog 24 [threeP.val (threeA b1 b2), .int .i64 2, .slice (some ⟨bk, 0, none⟩) 3 3] w1 _ from m24 threeP (threeA b1 b2) threeI 2 knownW (some ⟨bk, 0, none⟩) 3 w1 (thR (h1.holds (both (thr1 b1) (thr2 b2)) memZ)) (h1.rd_of_blk memZ) (by decide)) ?_; rintro v w2 ⟨a9, c9, rfl, hn⟩; rw [w_view2] at hn ⊢; refine LR.back (h1.newSl hn) ?_; clear hn h1) | (refine CallsTo.mono (show CallsTo Try.prog 27 [.slice none 0 0, (plcA 1 24).val] w1 _ from m27 sort_few [] none 0 (plcA 1 24) w1 (Rd.nil _ _) (fun _ => rfl) (by decide) (by decide) (by decide)) ?_; rintro v w2 ⟨a10, c10, rfl, hn⟩; rw [w_lrn] at hn ⊢; refine LR.back (h1.newSl hn) ?_; clear hn h1))))
    all_goals (refine At.stage_same (fun _ h => St.sub h subZ) ?_))
  all_goals (
    apply DW.quiet [41, 42, 43, 44]
    · decide +kernel
    · first | exact fun _ h => h | exact fun _ h => St.sub h subZ
    repeat'(first|(apply QL.evg; (iterate 3 exact rfl); (· apply Ev_hi; (· exact rfl); (· exact rfl); (· decide); (· decide)); (· exact rfl))|(apply QL.evg; (iterate 3 exact rfl); (· apply Ev_lo; (· exact rfl); (· exact rfl); (· decide); (· decide); (· decide)); (· exact rfl))|refine yv' ?_|refine uv' ?_|refine un' ?_|(refine us' ?_ ?_;all_goals(intro hc;try simp only[hcs]at hc;try(exfalso;first|contradiction|omega)))|apply QL.nil)
    all_goals (show DW _ _ _ _ _ _ _ _))
  all_goals (first | (apply DW.done_thn; (· decide +kernel)) | (apply DW.done; (· decide +kernel)))
  repeat'(first|refine kv' ?_|apply jJ|refine jE' ?_|refine jp' ?_|(apply jc;kernel_rfl)|refine kg' ?_|refine kG' ?_|refine kB' fun _=>?_|refine kA' fun _=>?_|refine kK' fun _=>?_|refine kU' ?_|((first|refine kR' ?_ ?_|refine kQ' ?_ ?_);all_goals(intro hc;try simp only[hcs]at hc;try(exfalso;first|contradiction|omega))))
  (apply ret1; (· exact rfl); intro w' hS)
  exact ⟨rfl, hS.toKeep⟩
end Go.Proofs.Ytgblmkpfkcibiaa

namespace Go.Proofs.Ytgblmkpfkcibiaa
open Go.Hb
attribute [local irreducible] LR CW At Ev thn blk finK noG again CallsTo DW QL dnext
set_option maxRecDepth 100000

end Go.Proofs.Ytgblmkpfkcibiaa

namespace Go.Proofs.Ytgblmkpfkcibiaa
open Go.Hb Go.ChangeShapes Go.WideShapes
attribute [local irreducible] LR CW At Ev thn blk finK noG again CallsTo DW QL dnext
set_option maxRecDepth 100000

theorem own_knob : ownKnob Try.prog.godebug = none := by kernel_rfl
theorem kids : Kids Try.prog (· < Try.prog.types.size) := kids_rows (by kernel_rfl) (by kernel_rfl)
theorem full_slices : ∀ t e, t < Try.prog.types.size → Try.prog.underlying t = some (.slice e) → 0 < Try.prog.cellsOf e := slices_full_of _ (by kernel_rfl)

def i64G : World → List Value → Prop := fun _ cs => ∃ n, cs = [.int .i64 n] ∧ i64 n
theorem opn_i64 : Opn Try.prog 3 i64G := (opn_int Try.underlying3).mono fun w cs ⟨n, h1, h2⟩ => ⟨n, h1, bounds_i64 h2⟩
theorem opn_ring : Opn Try.prog 42 (fun _ cs => ∃ s r, cs = [.int .i64 s, .int .i64 r] ∧ i64 s ∧ i64 r) := by
  refine (opn_struct Try.underlying42).mono fun w cs ⟨hl, h⟩ => ?_
  have hl : cs.length = 2 := hl
  match cs, hl with
  | [x, y], _ =>
    obtain ⟨a, ha, ha2⟩ := h 0 _ rfl _ opn_i64
    obtain ⟨b, hb, hb2⟩ := h 1 _ rfl _ opn_i64
    have ha : [x] = [Value.int .i64 a] := ha
    have hb : [y] = [Value.int .i64 b] := hb
    exact ⟨a, b, by rw [List.singleton_inj] at ha hb; rw [ha, hb], ha2, hb2⟩
theorem opn_plc : Opn Try.prog 44 (fun _ cs => ∃ p : Plc, cs = p.cells ∧ i64 p.ring ∧ i64 p.seq ∧ i64 p.rep ∧ i64 p.members) := by
  refine (opn_struct Try.underlying44).mono fun w cs ⟨hl, h⟩ => ?_
  have hl : cs.length = 4 := hl
  match cs, hl with
  | [x, y, z, u], _ =>
    obtain ⟨a, ha, ha2⟩ := h 0 _ rfl _ opn_i64
    obtain ⟨b, c, hb, hb2, hc2⟩ := h 1 _ rfl _ opn_ring
    obtain ⟨d, hd, hd2⟩ := h 2 _ rfl _ opn_i64
    have ha : [x] = [Value.int .i64 a] := ha
    have hb : [y, z] = [Value.int .i64 b, .int .i64 c] := hb
    have hd : [u] = [Value.int .i64 d] := hd
    simp only [List.cons.injEq, and_true] at ha hb hd
    exact ⟨⟨a, b, c, d⟩, by rw [ha, hb.1, hb.2, hd]; rfl, ha2, hb2, hc2, hd2⟩
theorem plcs_of : ∀ (css : List (List Value)), (∀ c ∈ css, ∃ p : Plc, c = p.cells ∧ i64 p.ring ∧ i64 p.seq ∧ i64 p.rep ∧ i64 p.members) → ∃ ps : List Plc, css.flatten = pcs ps ∧ ps.length = css.length ∧ plcsI ps
  | [], _ => ⟨[], rfl, rfl, fun p hp => by simp at hp⟩
  | c :: r, h => by
    obtain ⟨p, rfl, hp⟩ := h c List.mem_cons_self
    obtain ⟨ps, h1, h2, h3⟩ := plcs_of r fun c hc => h c (List.mem_cons_of_mem _ hc)
    refine ⟨p :: ps, by rw [List.flatten_cons, h1]; rfl, by simp [h2], fun q hq => ?_⟩
    rcases List.mem_cons.1 hq with rfl | hq
    · exact hp
    · exact h3 q hq
theorem opn_plcs : Opn Try.prog 37 (fun w cs => ∃ (a : Option Addr) (c : Nat) (ps : List Plc), cs = [.slice a ps.length c] ∧ Rd w a (pcs ps) ∧ plcsI ps ∧ (a = none → c = 0) ∧ ps.length ≤ c ∧ ps.length * 32 ≤ 140737488351232) := by
  refine (opn_slice Try.underlying37 (sz := 4) (by_ := 32) (by kernel_rfl) (by omega) (by kernel_rfl) opn_plc).mono ?_
  rintro w cs ⟨a, len, cap, css, rfl, rfl, hg, hr, hz, hc, hm⟩
  obtain ⟨ps, h1, h2, h3⟩ := plcs_of css fun c hc => (hg c hc).1
  rw [h1] at hr
  exact ⟨a, cap, ps, by rw [h2], hr, h3, hz, by omega, by rw [h2]; exact hm⟩
end Go.Proofs.Ytgblmkpfkcibiaa

namespace Go.Proofs.Ytgblmkpfkcibiaa
open Go.Hb
attribute [local irreducible] LR CW At Ev thn blk finK noG again CallsTo DW QL dnext
set_option maxRecDepth 100000

end Go.Proofs.Ytgblmkpfkcibiaa

namespace Go.Proofs.Ytgblmkpfkcibiaa
open Go.Hb
attribute [local irreducible] LR CW At Ev thn blk finK noG again CallsTo DW QL dnext
set_option maxRecDepth 100000

end Go.Proofs.Ytgblmkpfkcibiaa

namespace Go.Proofs.Ytgblmkpfkcibiaa
open Go.Hb Go.ChangeShapes Go.WideShapes
attribute [local irreducible] LR CW At Ev thn blk finK noG again CallsTo DW QL dnext
set_option maxRecDepth 100000

end Go.Proofs.Ytgblmkpfkcibiaa

namespace Go.Proofs.Ytgblmkpfkcibiaa
open Go.Hb
set_option maxRecDepth 100000

theorem ints_of : ∀ (css : List (List Value)), (∀ c ∈ css, ∃ n : Int, c = [.int .i64 n] ∧ i64 n) → ∃ l : List Int, css.flatten = iv l ∧ l.length = css.length ∧ ∀ x ∈ l, i64 x
  | [], _ => ⟨[], rfl, rfl, fun p hp => by simp at hp⟩
  | c :: r, h => by
    obtain ⟨n, rfl, hp⟩ := h c List.mem_cons_self
    obtain ⟨l, h1, h2, h3⟩ := ints_of r fun c hc => h c (List.mem_cons_of_mem _ hc)
    refine ⟨n :: l, by rw [List.flatten_cons, h1]; rfl, by simp [h2], fun q hq => ?_⟩
    rcases List.mem_cons.1 hq with rfl | hq
    · exact hp
    · exact h3 q hq
theorem opn_ints : Opn Try.prog 22 (fun w cs => ∃ (a : Option Addr) (c : Nat) (l : List Int), cs = [.slice a l.length c] ∧ Rd w a (iv l) ∧ (∀ x ∈ l, i64 x) ∧ (a = none → c = 0) ∧ l.length ≤ c ∧ l.length ≤ 17592186043904) := by
  refine (opn_slice Try.underlying22 (sz := 1) (by_ := 8) (by kernel_rfl) (by omega) (by kernel_rfl) opn_i64).mono ?_
  rintro w cs ⟨a, len, cap, css, rfl, rfl, hg, hr, hz, hc, hm⟩
  obtain ⟨l, h1, h2, h3⟩ := ints_of css fun c hc => (hg c hc).1
  rw [h1] at hr
  have hm : css.length * 8 ≤ 140737488351232 := hm
  exact ⟨a, cap, l, by rw [h2], hr, h3, hz, by omega, by omega⟩
structure Vst where
  node : Int
  aru : Int
  gaps : List Int
def Vst.cells (v : Vst) (a : Option Addr) (c : Nat) : List Value := [.int .i64 v.node, .int .i64 v.aru, .slice a v.gaps.length c]
def Vst.val (v : Vst) (a : Option Addr) (c : Nat) : Value := .agg (v.cells a c).toArray
end Go.Proofs.Ytgblmkpfkcibiaa

namespace Go.Proofs.Ytgblmkpfkcibiaa
open Go.Hb Go.ChangeShapes Go.WideShapes
attribute [local irreducible] LR CW At Ev thn blk finK noG again CallsTo DW QL dnext TW DP gpost
set_option maxRecDepth 100000

theorem opn_gat : Opn Try.prog 34 (fun _ cs => ∃ g : Gat, cs = Gat.cells g) := by
  refine (opn_struct Try.underlying34).mono fun w cs ⟨hl, h⟩ => ?_
  have hl : cs.length = 3 := hl
  match cs, hl with
  | [y0, y1, y2], _ =>
    obtain ⟨x0, h0, _⟩ := h 0 _ rfl _ opn_i64
    obtain ⟨x1, h1, _⟩ := h 1 _ rfl _ opn_i64
    obtain ⟨x2, h2, _⟩ := h 2 _ rfl _ opn_i64
    have h0 : [y0] = [Value.int .i64 x0] := h0
    have h1 : [y1] = [Value.int .i64 x1] := h1
    have h2 : [y2] = [Value.int .i64 x2] := h2
    simp only [List.cons.injEq, and_true] at h0 h1 h2
    exact ⟨⟨x0, x1, x2⟩, by rw [h0, h1, h2]; rfl⟩
theorem opn_gats : Opn Try.prog 23 (fun w cs => ∃ (a : Option Addr) (c : Nat) (l : List Gat), cs = [.slice a l.length c] ∧ Rd w a (gv l) ∧ (a = none → c = 0) ∧ l.length * 24 ≤ 140737488351232) := by
  refine (opn_slice Try.underlying23 (sz := 3) (by_ := 24) (by kernel_rfl) (by omega) (by kernel_rfl) opn_gat).mono ?_
  rintro w cs ⟨a, len, cap, css, rfl, rfl, hg, hr, hz, hc, hm⟩
  obtain ⟨l, h1, h2, _⟩ := Go.Hb.rows_of (f := Gat.cells) (R := fun _ => True) css fun c hc => (by obtain ⟨e, he⟩ := (hg c hc).1; exact ⟨e, he, trivial⟩)
  rw [h1] at hr
  have hm : css.length * 24 ≤ 140737488351232 := hm
  exact ⟨a, cap, l, by rw [h2], hr, hz, by omega⟩
theorem opn_plan : Opn Try.prog 25 (fun w cs => ∃ (p : Pln) (A : PlA), cs = p.cells A ∧ PlR w p A ∧ PlI p ∧ (A.ra = none → A.rc = 0) ∧ (A.ga = none → A.gc = 0)) := by
  refine (opn_struct Try.underlying25).mono fun w cs ⟨hl, h⟩ => ?_
  have hl : cs.length = 2 := hl
  match cs, hl with
  | [y0, y1], hl =>
    obtain ⟨ra, rc, R, h0, hr0, hb, hz0, hc0, hm0⟩ := h 0 _ rfl _ opn_ints
    obtain ⟨ga, gc, G, h1, hr1, hz1, hm1⟩ := h 1 _ rfl _ opn_gats
    have h0 : [y0] = [Value.slice ra R.length rc] := h0
    have h1 : [y1] = [Value.slice ga G.length gc] := h1
    simp only [List.cons.injEq, and_true] at h0 h1
    exact ⟨⟨R, G⟩, ⟨ra, rc, ga, gc⟩, by rw [h0, h1]; rfl, ⟨hr0, hr1⟩, ⟨hb, by show R.length * 8 ≤ _; omega, hm1⟩, hz0, hz1⟩
section
variable {P : Program} {C : World → Prop} {f : Frm} {T T' T'' : TypeId} {x y : Operand}
end
end Go.Proofs.Ytgblmkpfkcibiaa

namespace Go.Proofs.Ytgblmkpfkcibiaa
open Go.Hb
attribute [local irreducible] LR CW At Ev thn blk finK noG again CallsTo DW QL dnext TW DP gpost
set_option maxRecDepth 100000

theorem ringG_iff {R : List Int} {fr : Int} : ringG R fr = true ↔ 0 ≤ fr ∧ fr < R.length := by
  unfold ringG
  rw [decide_eq_true_eq]
theorem viewP_len (p : List Int × List Gat) (fr : Int) (K : List Plc) : (viewP p fr K).length ≤ p.1.length := by
  cases hc : (chkP p.1 p.2 && ringG p.1 fr) with
  | false => unfold viewP; rw [hc, if_neg (by simp)]; simp
  | true =>
    cases hk : plcK K fr with
    | none => unfold viewP; rw [hc, if_pos rfl, hk]; simp
    | some x =>
      have h := (view_is (p := p) hk).len (ringG_iff.1 (by rw [Bool.and_eq_true] at hc; exact hc.2))
      unfold viewP; rw [hc, if_pos rfl, hk]
      exact h
end Go.Proofs.Ytgblmkpfkcibiaa

namespace Go.Proofs.Ytgblmkpfkcibiaa
open Go.Hb
attribute [local irreducible] LR CW At Ev thn blk finK noG again CallsTo DW QL dnext TW DP gpost
set_option maxRecDepth 100000

theorem viewP_of {p : List Int × List Gat} {fr : Int} {K : List Plc} {x : Plc} (hc : chkP p.1 p.2 = true) (hr : ringG p.1 fr = true) (hx : plcK K fr = some x) : ViewIs p K fr (viewP p fr K) := by
  unfold viewP
  rw [hc, hr, hx]
  exact view_is hx
theorem viewP_yes {p : List Int × List Gat} {fr : Int} {K : List Plc} (h : viewP p fr K ≠ []) : chkP p.1 p.2 = true ∧ ringG p.1 fr = true ∧ ∃ x, plcK K fr = some x := by
  cases hc : chkP p.1 p.2 with
  | false => exact (h (by unfold viewP; rw [hc]; rfl)).elim
  | true =>
    cases hr : ringG p.1 fr with
    | false => exact (h (by unfold viewP; rw [hc, hr]; rfl)).elim
    | true =>
      cases hx : plcK K fr with
      | none => exact (h (by unfold viewP; rw [hc, hr, hx]; rfl)).elim
      | some x => exact ⟨rfl, rfl, x, rfl⟩
section
variable {P : Program} {C : World → Prop} {f : Frm} {T T' T'' : TypeId} {x y : Operand} {k : IntKind} {a b : Int}
end
end Go.Proofs.Ytgblmkpfkcibiaa

namespace Go.Proofs.Ytgblmkpfkcibiaa
open Go.Hb
attribute [local irreducible] LR CW At Ev thn blk finK noG again CallsTo DW QL dnext TW DP gpost
set_option maxRecDepth 100000

def oneS (O : List Plc) (x : Plc) : List Plc := if O.any fun y => decide (y.ring = x.ring) then O else O ++ [x]
def oneP (K : List Plc) : List Plc := K.foldl oneS []
theorem oneP_snoc (K : List Plc) (x : Plc) : oneP (K ++ [x]) = oneS (oneP K) x := by unfold oneP; rw [List.foldl_append]; rfl
theorem oneP_take {K : List Plc} {i : Nat} (h : i < K.length) : oneP (K.take (i + 1)) = oneS (oneP (K.take i)) K[i] := by
  rw [List.take_add_one, List.getElem?_eq_getElem h]; exact oneP_snoc _ _
theorem oneS_nd {O : List Plc} (h : (O.map Plc.ring).Nodup) (x : Plc) : ((oneS O x).map Plc.ring).Nodup := by
  unfold oneS
  split
  · exact h
  · rename_i hn
    rw [List.map_append, List.nodup_append]
    refine ⟨h, by simp, fun a ha b hb e => ?_⟩
    simp only [List.map_cons, List.map_nil, List.mem_singleton] at hb
    obtain ⟨y, hy, hyr⟩ := List.mem_map.1 ha
    exact hn (List.any_eq_true.2 ⟨y, hy, by simp; omega⟩)
theorem oneP_nd (K : List Plc) : ((oneP K).map Plc.ring).Nodup := by
  have : ∀ (l O : List Plc), (O.map Plc.ring).Nodup → ((l.foldl oneS O).map Plc.ring).Nodup := by
    intro l
    induction l with
    | nil => intro O h; exact h
    | cons x r ih => intro O h; exact ih _ (oneS_nd h x)
  exact this K [] List.nodup_nil
theorem oneS_len (O : List Plc) (x : Plc) : (oneS O x).length ≤ O.length + 1 := by
  unfold oneS; split
  · omega
  · simp
theorem oneP_len (K : List Plc) : (oneP K).length ≤ K.length := by
  have : ∀ (l O : List Plc), (l.foldl oneS O).length ≤ O.length + l.length := by
    intro l
    induction l with
    | nil => intro O; simp
    | cons x r ih => intro O; have := ih (oneS O x); have := oneS_len O x; simp only [List.foldl_cons, List.length_cons]; omega
  have := this K []
  simpa [oneP] using this
def fewF (less : List Int) (i : Nat) (x : Plc) : List Plc :=
  if h : i < less.length then (if andI .i64 less[i] 1 = 1 then [] else [⟨x.ring, x.seq, x.rep, andI .i64 x.members less[i]⟩]) else [x]
def fewT (less : List Int) : Nat → List Plc → List Plc
  | _, [] => []
  | i, x :: r => fewF less i x ++ fewT less (i + 1) r
theorem fewT_append (less : List Int) : ∀ (a b : List Plc) (i : Nat), fewT less i (a ++ b) = fewT less i a ++ fewT less (i + a.length) b
  | [], b, i => by simp [fewT]
  | x :: r, b, i => by
    rw [List.cons_append, fewT, fewT, fewT_append less r b (i + 1), List.append_assoc, List.length_cons, show i + 1 + r.length = i + (r.length + 1) by omega]
theorem fewT_take (less : List Int) {K : List Plc} {i : Nat} (h : i < K.length) : fewT less 0 (K.take (i + 1)) = fewT less 0 (K.take i) ++ fewF less i K[i] := by
  rw [List.take_add_one, List.getElem?_eq_getElem h, fewT_append, List.length_take, show 0 + min i K.length = i by omega]
  show _ ++ (fewF less i K[i] ++ []) = _
  rw [List.append_nil]
theorem fewF_len (less : List Int) (i : Nat) (x : Plc) : (fewF less i x).length ≤ 1 := by
  unfold fewF; split
  · split <;> simp
  · simp
theorem fewT_len (less : List Int) : ∀ (K : List Plc) (i : Nat), (fewT less i K).length ≤ K.length
  | [], i => by simp [fewT]
  | x :: r, i => by
    have h1 := fewF_len less i x
    have h2 := fewT_len less r (i + 1)
    rw [fewT, List.length_append, List.length_cons]; omega
structure LessP (x z : Plc) : Prop where
  ring : x.ring = z.ring
  mem : ∀ n, hasC x.members n = true → hasC z.members n = true
theorem fewF_less {less : List Int} {i : Nat} {x z : Plc} (h : x ∈ fewF less i z) : LessP x z := by
  unfold fewF at h
  split at h
  · split at h
    · cases h
    · rw [List.mem_singleton] at h
      subst h
      refine ⟨rfl, fun n hn => ?_⟩
      unfold hasC at hn ⊢
      rw [Bool.and_eq_true] at hn ⊢
      have h2 : tb (andI .i64 z.members less[i]) n.toNat = true := hn.2
      rw [tb_and, Bool.and_eq_true] at h2
      exact ⟨hn.1, h2.1⟩
  · rw [List.mem_singleton] at h
    subst h
    exact ⟨rfl, fun n hn => hn⟩
theorem fewT_less {less : List Int} : ∀ {K : List Plc} {i : Nat} {x : Plc}, x ∈ fewT less i K → ∃ z ∈ K, LessP x z
  | z :: r, i, x, h => by
    rw [fewT, List.mem_append] at h
    rcases h with h | h
    · exact ⟨z, List.mem_cons_self, fewF_less h⟩
    · obtain ⟨y, hy, hl⟩ := fewT_less h
      exact ⟨y, List.mem_cons_of_mem _ hy, hl⟩
theorem plcK_mem {K : List Plc} {r : Int} {x : Plc} (h : plcK K r = some x) : x ∈ K := List.mem_of_find?_eq_some h
theorem plcK_nd {K : List Plc} (h : (K.map Plc.ring).Nodup) {z : Plc} (hz : z ∈ K) : plcK K z.ring = some z := by
  induction K with
  | nil => cases hz
  | cons y r ih =>
    rw [List.map_cons, List.nodup_cons] at h
    unfold plcK
    rw [List.find?_cons]
    rcases List.mem_cons.1 hz with rfl | hz
    · simp
    · have : ¬ y.ring = z.ring := fun e => h.1 (List.mem_map.2 ⟨z, hz, e.symm⟩)
      rw [decide_eq_false this]
      exact ih h.2 hz
theorem few_plc {K : List Plc} (hnd : (K.map Plc.ring).Nodup) {less : List Int} {r : Int} {x : Plc} (h : plcK (fewT less 0 K) r = some x) : ∃ z, plcK K r = some z ∧ LessP x z := by
  obtain ⟨z, hz, hl⟩ := fewT_less (plcK_mem h)
  have hr := plcK_ring h
  have h2 := plcK_nd hnd hz
  rw [← hl.ring, hr] at h2
  exact ⟨z, h2, hl⟩
theorem few_steps {p : List Int × List Gat} {K : List Plc} (hnd : (K.map Plc.ring).Nodup) {less : List Int} {a b : Int} (h : stepsR p (fewT less 0 K) a b = true) : stepsR p K a b = true := by
  obtain ⟨x, y, n, hx, hy, hn, hf, h1, h2⟩ := stepsR_iff.1 h
  obtain ⟨x', hx', lx⟩ := few_plc hnd hx
  obtain ⟨y', hy', ly⟩ := few_plc hnd hy
  exact stepsR_iff.2 ⟨x', y', n, hx', hy', hn, hf, lx.mem n h1, ly.mem n h2⟩
theorem Rch.mono {s t : Int → Int → Bool} (h : ∀ a b, s a b = true → t a b = true) {a b : Int} (hr : Rch s a b) : Rch t a b := by
  induction hr with
  | refl => exact .refl
  | step _ hs ih => exact .step ih (h _ _ hs)
theorem few_view {p : List Int × List Gat} {K : List Plc} (hnd : (K.map Plc.ring).Nodup) {less : List Int} {fr : Int} : ∀ y ∈ viewP p fr (fewT less 0 K), ∃ z ∈ viewP p fr K, z.ring = y.ring := by
  intro y hy
  have hne : viewP p fr (fewT less 0 K) ≠ [] := fun e => by rw [e] at hy; cases hy
  obtain ⟨hc, hr, x, hx⟩ := viewP_yes hne
  have hv := viewP_of hc hr hx
  obtain ⟨x', hx', _⟩ := few_plc hnd hx
  have hu := viewP_of hc hr hx'
  have := (hu.mem y.ring).2 (Rch.mono (fun a b => few_steps hnd) ((hv.mem y.ring).1 (List.mem_map.2 ⟨y, hy, rfl⟩)))
  obtain ⟨z, hz, hzr⟩ := List.mem_map.1 this
  exact ⟨z, hz, hzr⟩
def amongP (A B : List Plc) : Bool := A.all fun x => B.any fun y => decide (y.ring = x.ring)
theorem few_among {p : List Int × List Gat} {K : List Plc} (hnd : (K.map Plc.ring).Nodup) (less : List Int) (fr : Int) : amongP (viewP p fr (fewT less 0 K)) (viewP p fr K) = true := by
  unfold amongP
  rw [List.all_eq_true]
  intro y hy
  obtain ⟨z, hz, e⟩ := few_view hnd y hy
  exact List.any_eq_true.2 ⟨z, hz, by simp [e]⟩
end Go.Proofs.Ytgblmkpfkcibiaa

namespace Go.Proofs.Ytgblmkpfkcibiaa
open Go.Hb
attribute [local irreducible] LR CW At Ev thn blk finK noG again CallsTo DW QL dnext TW DP gpost
set_option maxRecDepth 100000

set_option maxHeartbeats 2000000 in
theorem m29 (a : Option Addr) (c : Nat) (K : List Plc) (w : World) (hk : Rd w a (pcs K)) (hm : K.length * 32 ≤ 140737488351232) : CallsTo Try.prog 29 [.slice a K.length c] w fun v w' => plR w w' v (oneP K) := by
  refine go_in (n := 43) (St.rd1 hk) Try.func29 rfl rfl ?_
  repeat'(first|refine kv' ?_|apply jJ|refine jE' ?_|refine jp' ?_|(apply jc;kernel_rfl)|refine kg' ?_|refine kG' ?_|refine kB' fun _=>?_|refine kA' fun _=>?_|refine kK' fun _=>?_|refine kU' ?_|((first|refine kR' ?_ ?_|refine kQ' ?_ ?_);all_goals(intro hc;try simp only[hcs]at hc;try(exfalso;first|contradiction|omega))))
  apply CW.loop [3, 4, 5, 6, 7, 8, 9, 10, 11, 12, 13, 14, 15, 16, 17, 18, 19, 20, 21, 22, 23, 24, 25, 26, 27, 28, 29, 30, 31, 32, 33, 34, 35, 36, 37, 38, 39, 40, 41] (fun s : Cst => s.k ≤ K.length) (fun s => [(4, .int .i64 (s.k : Int)), (3, .slice s.a (oneP (K.take s.k)).length s.c)])
    (fun s => St w NoF [pN s.a (oneP (K.take s.k)).length s.c (oneP (K.take s.k)), rdA a (pcs K)]) (fun s => K.length - s.k)
  · exact fun w' hw' => ⟨⟨0, none, 0⟩, by simp, ⟨rfl, rfl, trivial⟩, hw'.nilsl 44 4⟩
  rintro ⟨i, a3, c3⟩ g hi
  simp only at hi ⊢
  by_cases hlt : i < K.length
  rotate_left
  · have hie : i = K.length := by omega
    subst hie
    rw [List.take_length]
    repeat'(first|refine kv' ?_|apply jJ|refine jE' ?_|refine jp' ?_|(apply jc;kernel_rfl)|refine kg' ?_|refine kG' ?_|refine kB' fun _=>?_|refine kA' fun _=>?_|refine kK' fun _=>?_|refine kU' ?_|((first|refine kR' ?_ ?_|refine kQ' ?_ ?_);all_goals(intro hc;try simp only[hcs]at hc;try(exfalso;first|contradiction|omega))))
    (apply ret1; (· exact rfl); intro w' hS)
    exact ⟨a3, c3, rfl, hS.toNew memZ⟩
  have hnx := oneP_take hlt
  have hol : (oneP (K.take i)).length ≤ i := by have := oneP_len (K.take i); rw [List.length_take] at this; omega
  obtain ⟨ba, oa, rfl⟩ := hk.form (fun e => by have h1 := congrArg List.length e; rw [pcs_length, List.length_nil] at h1; omega)
  obtain ⟨x, hx⟩ : ∃ x, K[i] = x := ⟨_, rfl⟩
  have hKi : K[i]? = some x := by rw [List.getElem?_eq_getElem hlt, hx]
  rw [hx] at hnx
  unfold oneS at hnx
  generalize oneP (K.take i) = O at hnx hol ⊢
  repeat'(first|refine kv' ?_|apply jJ|refine jE' ?_|refine jp' ?_|(apply jc;kernel_rfl)|refine kg' ?_|refine kG' ?_|refine kB' fun _=>?_|refine kA' fun _=>?_|refine kK' fun _=>?_|refine kU' ?_|((first|refine kR' ?_ ?_|refine kQ' ?_ ?_);all_goals(intro hc;try simp only[hcs]at hc;try(exfalso;first|contradiction|omega))))
  refine CW_fact (φ := O ≠ [] → ∃ b o, a3 = some ⟨b, o, none⟩) (fun w' hw' h => (hw'.rd_of_own (E := 44) (sz := 4) (n := O.length) (xs := pcs O) memZ).form (fun e => h (by have := pcs_length O; rw [e] at this; exact List.length_eq_zero_iff.1 (by simp at this; omega)))) fun hf => ?_
  apply CW.loop [5, 6, 13, 14, 15, 16, 17, 18, 19, 20, 21, 22, 23, 24, 25, 26, 27, 28, 29, 30, 31, 32] (fun j : Nat => j ≤ O.length) (fun j : Nat => [(6, Value.int .i64 (j : Int)), (5, .bool ((O.take j).any fun y => decide (y.ring = x.ring)))])
    (fun _ => St w NoF [pN a3 O.length c3 O, rdA (some ⟨ba, oa, none⟩) (pcs K)]) (fun j => O.length - j)
  · exact fun w' hw' => ⟨0, Nat.zero_le _, ⟨rfl, rfl, trivial⟩, hw'⟩
  intro j g hj
  by_cases hjt : j < O.length
  · obtain ⟨b3, o3, rfl⟩ := hf (fun e => by rw [e] at hjt; simp at hjt)
    obtain ⟨y, hy⟩ : ∃ y, O[j] = y := ⟨_, rfl⟩
    have hOj : O[j]? = some y := by rw [List.getElem?_eq_getElem hjt, hy]
    have hnext : ((O.take (j + 1)).any fun y => decide (y.ring = x.ring)) = (((O.take j).any fun y => decide (y.ring = x.ring)) || decide (y.ring = x.ring)) := by rw [any_take _ _ hjt, hy]
    generalize ((O.take j).any fun y => decide (y.ring = x.ring)) = B at hnext ⊢
    cases B with
    | true =>
      repeat'(first|(apply CW.reg_heldC)|refine kv' ?_|apply jJ|refine jE' ?_|refine jp' ?_|(apply jc;kernel_rfl)|refine kg' ?_|refine kG' ?_|refine kB' fun _=>?_|refine kA' fun _=>?_|refine kK' fun _=>?_|refine kU' ?_|((first|refine kR' ?_ ?_|refine kQ' ?_ ?_);all_goals(intro hc;try simp only[hcs]at hc;try(exfalso;first|contradiction|omega))))
      all_goals (
        apply DW.quiet [0, 1, 2, 3, 4, 5, 6, 7, 8, 9, 10, 11, 12, 13, 14]
        · decide +kernel
        · first | exact fun _ h => h | exact fun _ h => St.sub h subZ
        repeat'(first|(apply QL.evg; (iterate 3 exact rfl); (· apply Ev.indexAddr; (· exact rfl); (· exact rfl); (· omega); (· omega)); (· exact rfl))|refine yv' ?_|refine uv' ?_|refine un' ?_|(refine us' ?_ ?_;all_goals(intro hc;try simp only[hcs]at hc;try(exfalso;first|contradiction|omega)))|apply QL.nil)
        all_goals (show DW _ _ _ _ _ _ _ _))
      all_goals (first | (apply DW.done_thn; (· decide +kernel)) | (apply DW.done; (· decide +kernel)))
      repeat'(first|refine kv' ?_|apply jJ|refine jE' ?_|refine jp' ?_|(apply jc;kernel_rfl)|refine kg' ?_|refine kG' ?_|refine kB' fun _=>?_|refine kA' fun _=>?_|refine kK' fun _=>?_|refine kU' ?_|(apply addX;(iterate 2 exact rfl);(iterate 2(first|omega|(dsimp only;omega)));exact rfl)|((first|refine kR' ?_ ?_|refine kQ' ?_ ?_);all_goals(intro hc;try simp only[hcs]at hc;try(exfalso;first|contradiction|omega))))
      refine At.again (j + 1) (by omega) ?_ ⟨rfl, congrArg Value.bool (by rw [hnext]; rfl), trivial⟩ (fun w' hw' => hw') (by omega)
      (repeat (first | exact Out.refl _ _ | exact Out.mix | (apply Out.upd; (· exact rfl)) | (apply Out.updL; (· exact rfl)) | (apply Out.mixs; (· exact rfl))))
    | false =>
      repeat'(first|(apply CW.reg_heldC)|refine kv' ?_|apply jJ|refine jE' ?_|refine jp' ?_|(apply jc;kernel_rfl)|refine kg' ?_|refine kG' ?_|refine kB' fun _=>?_|refine kA' fun _=>?_|refine kK' fun _=>?_|refine kU' ?_|((first|refine kR' ?_ ?_|refine kQ' ?_ ?_);all_goals(intro hc;try simp only[hcs]at hc;try(exfalso;first|contradiction|omega))))
      all_goals (
        apply DW.quiet [0, 1, 2, 3, 4, 5, 6, 7, 8, 9, 10, 11, 12, 13, 14]
        · decide +kernel
        · first | exact fun _ h => h | exact fun _ h => St.sub h subZ
        repeat'(first|(apply QL.evg; (iterate 3 exact rfl); (· apply Ev.indexAddr; (· exact rfl); (· exact rfl); (· omega); (· omega)); (· exact rfl))|(apply QL.evg; (iterate 3 exact rfl); (· apply Ev.load (v := .int .i64 y.ring); (· exact rfl); (· intro w' hw'; refine pcs_one (hw'.rd_of_own (E := 44) (sz := 4) (n := O.length) (xs := pcs O) memZ) hOj 0 rfl ?_; (· omega))); (· exact rfl))|(apply QL.evg; (iterate 3 exact rfl); (· apply Ev.load (v := .int .i64 x.ring); (· exact rfl); (· intro w' hw'; refine pcs_one (hw'.rd_of memZ) hKi 0 rfl ?_; (· omega))); (· exact rfl))|refine yv' ?_|refine uv' ?_|refine un' ?_|(refine us' ?_ ?_;all_goals(intro hc;try simp only[hcs]at hc;try(exfalso;first|contradiction|omega)))|apply QL.nil)
        all_goals (show DW _ _ _ _ _ _ _ _))
      all_goals (first | (apply DW.done_thn; (· decide +kernel)) | (apply DW.done; (· decide +kernel)))
      repeat'(first|refine kv' ?_|apply jJ|refine jE' ?_|refine jp' ?_|(apply jc;kernel_rfl)|refine kg' ?_|refine kG' ?_|refine kB' fun _=>?_|refine kA' fun _=>?_|refine kK' fun _=>?_|refine kU' ?_|(apply addX;(iterate 2 exact rfl);(iterate 2(first|omega|(dsimp only;omega)));exact rfl)|((first|refine kR' ?_ ?_|refine kQ' ?_ ?_);all_goals(intro hc;try simp only[hcs]at hc;try(exfalso;first|contradiction|omega))))
      refine At.again (j + 1) (by omega) ?_ ⟨rfl, congrArg Value.bool (by rw [hnext]; rfl), trivial⟩ (fun w' hw' => hw') (by omega)
      (repeat (first | exact Out.refl _ _ | exact Out.mix | (apply Out.upd; (· exact rfl)) | (apply Out.updL; (· exact rfl)) | (apply Out.mixs; (· exact rfl))))
  have hje : j = O.length := by omega
  subst hje
  rw [List.take_length]
  cases hB : (O.any fun y => decide (y.ring = x.ring)) with
  | true =>
    rw [hB, if_pos rfl] at hnx
    repeat'(first|refine kv' ?_|apply jJ|refine jE' ?_|refine jp' ?_|(apply jc;kernel_rfl)|refine kg' ?_|refine kG' ?_|refine kB' fun _=>?_|refine kA' fun _=>?_|refine kK' fun _=>?_|refine kU' ?_|(apply addX;(iterate 2 exact rfl);(iterate 2(first|omega|(dsimp only;omega)));exact rfl)|((first|refine kR' ?_ ?_|refine kQ' ?_ ?_);all_goals(intro hc;try simp only[hcs]at hc;try(exfalso;first|contradiction|omega))))
    refine At.again (⟨i + 1, a3, c3⟩ : Cst) (by simp only; omega) ?_ ⟨rfl, ?_, trivial⟩ ?_ (by simp only; omega)
    · (repeat (first | exact Out.refl _ _ | exact Out.mix | (apply Out.upd; (· exact rfl)) | (apply Out.updL; (· exact rfl)) | (apply Out.mixs; (· exact rfl))))
    · simp only
      rw [hnx]
      rfl
    · intro w' hw'
      simp only
      rw [hnx]
      exact hw'
  | false =>
    rw [hB, if_neg (by simp)] at hnx
    repeat'(first|(apply LR.ev; (· apply Ev.load_agg_at (cs := [Value.int .i64 x.ring, .int .i64 x.seq, .int .i64 x.rep, .int .i64 x.members]); (· exact rfl); (· exact rfl); (· intro w' hw'; refine pcs_cell (x := x) (hw'.rd_of memZ) hKi ?_; (· simp; done))); (· exact rfl))|(apply Go.Hb.kK;(iterate 4 exact rfl);intro bs)|refine kv' ?_|apply jJ|refine jE' ?_|refine jp' ?_|(apply jc;kernel_rfl)|refine kg' ?_|refine kG' ?_|refine kB' fun _=>?_|refine kA' fun _=>?_|refine kK' fun _=>?_|refine kU' ?_|(apply idxX;(iterate 2 exact rfl);(iterate 2(first|omega|(dsimp only;omega)));exact rfl)|(apply addX;(iterate 2 exact rfl);(iterate 2(first|omega|(dsimp only;omega)));exact rfl)|(apply LR.append (xs := pcs O) (news := x.cells) (m := 1); (· exact rfl); (· exact rfl); (· intro a' c'; (repeat (first | exact sH _ _ _ | apply sT))); (· exact fun w' hw' => hw'.rd_of_blk (mH _ _)); (· exact fun hx => by cases hx); (· exact rfl); (· exact rfl); (· omega); (· unfold maxLen; omega); (· exact rfl); (intro a6 c6))|((first|refine kR' ?_ ?_|refine kQ' ?_ ?_);all_goals(intro hc;try simp only[hcs]at hc;try(exfalso;first|contradiction|omega))))
    refine At.again (⟨i + 1, a6, c6⟩ : Cst) (by simp only; omega) ?_ ⟨rfl, ?_, trivial⟩ ?_ (by simp only; omega)
    · (repeat (first | exact Out.refl _ _ | exact Out.mix | (apply Out.upd; (· exact rfl)) | (apply Out.updL; (· exact rfl)) | (apply Out.mixs; (· exact rfl))))
    · simp only
      rw [hnx, List.length_append]
      rfl
    · intro w' hw'
      simp only
      rw [hnx, pN_snoc]
      exact hw'.sub subZ
theorem all_take {α : Type} (l : List α) (f : α → Bool) {k : Nat} (h : k < l.length) : (l.take (k + 1)).all f = ((l.take k).all f && f (l[k]'h)) := by
  rw [List.take_add_one, List.getElem?_eq_getElem h, List.all_append]; simp
theorem all_no {α : Type} (l : List α) (f : α → Bool) {k : Nat} (h : k < l.length) (hf : f (l[k]'h) = false) : l.all f = false := by
  rw [List.all_eq_false]
  exact ⟨l[k]'h, List.getElem_mem h, by rw [hf]; simp⟩
set_option maxHeartbeats 2000000 in
theorem m30 (a b : Option Addr) (ca cb : Nat) (A B : List Plc) (w : World) (ha : Rd w a (pcs A)) (hb : Rd w b (pcs B)) (hma : A.length ≤ 17592186043904) (hmb : B.length ≤ 17592186043904) :
    CallsTo Try.prog 30 [.slice a A.length ca, .slice b B.length cb] w fun v w' => v = .bool (amongP A B) ∧ Grew w w' := by
  refine go_in (n := 36) (St.rd2 ha hb) Try.func30 rfl rfl ?_
  repeat'(first|refine kv' ?_|apply jJ|refine jE' ?_|refine jp' ?_|(apply jc;kernel_rfl)|refine kg' ?_|refine kG' ?_|refine kB' fun _=>?_|refine kA' fun _=>?_|refine kK' fun _=>?_|refine kU' ?_|((first|refine kR' ?_ ?_|refine kQ' ?_ ?_);all_goals(intro hc;try simp only[hcs]at hc;try(exfalso;first|contradiction|omega))))
  apply CW.loop [4, 5, 6, 7, 8, 9, 10, 11, 12, 13, 14, 15, 16, 17, 18, 19, 20, 21, 22, 23, 24, 25, 26, 27, 28, 29, 30, 31, 32, 33, 34, 35] (fun i : Nat => i ≤ A.length ∧ ((A.take i).all fun x => B.any fun y => decide (y.ring = x.ring)) = true) (fun i : Nat => [(5, Value.int .i64 (i : Int))])
    (fun _ => St w NoF [rdA a (pcs A), rdA b (pcs B)]) (fun i => A.length - i)
  · exact fun w' hw' => ⟨0, ⟨Nat.zero_le _, rfl⟩, ⟨rfl, trivial⟩, hw'⟩
  rintro i g ⟨hi, hall⟩
  by_cases hlt : i < A.length
  rotate_left
  · have hie : i = A.length := by omega
    subst hie
    rw [List.take_length] at hall
    repeat'(first|refine kv' ?_|apply jJ|refine jE' ?_|refine jp' ?_|(apply jc;kernel_rfl)|refine kg' ?_|refine kG' ?_|refine kB' fun _=>?_|refine kA' fun _=>?_|refine kK' fun _=>?_|refine kU' ?_|((first|refine kR' ?_ ?_|refine kQ' ?_ ?_);all_goals(intro hc;try simp only[hcs]at hc;try(exfalso;first|contradiction|omega))))
    (apply ret1; (· exact rfl); intro w' hS)
    exact ⟨congrArg Value.bool hall.symm, hS.toKeep⟩
  obtain ⟨ba, oa, rfl⟩ := ha.form (fun e => by have h1 := congrArg List.length e; rw [pcs_length, List.length_nil] at h1; omega)
  have hnx := all_take A (fun x => B.any fun y => decide (y.ring = x.ring)) hlt
  have hno := all_no A (fun x => B.any fun y => decide (y.ring = x.ring)) hlt
  rw [hall, Bool.true_and] at hnx
  obtain ⟨x, hx⟩ : ∃ x, A[i] = x := ⟨_, rfl⟩
  have hAi : A[i]? = some x := by rw [List.getElem?_eq_getElem hlt, hx]
  rw [hx] at hnx hno
  repeat'(first|refine kv' ?_|apply jJ|refine jE' ?_|refine jp' ?_|(apply jc;kernel_rfl)|refine kg' ?_|refine kG' ?_|refine kB' fun _=>?_|refine kA' fun _=>?_|refine kK' fun _=>?_|refine kU' ?_|((first|refine kR' ?_ ?_|refine kQ' ?_ ?_);all_goals(intro hc;try simp only[hcs]at hc;try(exfalso;first|contradiction|omega))))
  apply CW.loop [6, 7, 14, 15, 16, 17, 18, 19, 20, 21, 22, 23, 24, 25, 26, 27, 28, 29, 30, 31, 32, 33] (fun j : Nat => j ≤ B.length) (fun j : Nat => [(7, Value.int .i64 (j : Int)), (6, .bool ((B.take j).any fun y => decide (y.ring = x.ring)))])
    (fun _ => St w NoF [rdA (some ⟨ba, oa, none⟩) (pcs A), rdA b (pcs B)]) (fun j => B.length - j)
  · exact fun w' hw' => ⟨0, Nat.zero_le _, ⟨rfl, rfl, trivial⟩, hw'⟩
  intro j g hj
  by_cases hjt : j < B.length
  · obtain ⟨b3, o3, rfl⟩ := hb.form (fun e => by have h1 := congrArg List.length e; rw [pcs_length, List.length_nil] at h1; omega)
    obtain ⟨y, hy⟩ : ∃ y, B[j] = y := ⟨_, rfl⟩
    have hBj : B[j]? = some y := by rw [List.getElem?_eq_getElem hjt, hy]
    have hnext : ((B.take (j + 1)).any fun y => decide (y.ring = x.ring)) = (((B.take j).any fun y => decide (y.ring = x.ring)) || decide (y.ring = x.ring)) := by rw [any_take _ _ hjt, hy]
    generalize ((B.take j).any fun y => decide (y.ring = x.ring)) = Z at hnext ⊢
    cases Z with
    | true =>
      repeat'(first|(apply CW.reg_heldC)|refine kv' ?_|apply jJ|refine jE' ?_|refine jp' ?_|(apply jc;kernel_rfl)|refine kg' ?_|refine kG' ?_|refine kB' fun _=>?_|refine kA' fun _=>?_|refine kK' fun _=>?_|refine kU' ?_|((first|refine kR' ?_ ?_|refine kQ' ?_ ?_);all_goals(intro hc;try simp only[hcs]at hc;try(exfalso;first|contradiction|omega))))
      all_goals (
        apply DW.quiet [0, 1, 2, 3, 4, 5, 6, 7, 8, 9, 10, 11, 12, 13, 14]
        · decide +kernel
        · first | exact fun _ h => h | exact fun _ h => St.sub h subZ
        repeat'(first|(apply QL.evg; (iterate 3 exact rfl); (· apply Ev.indexAddr; (· exact rfl); (· exact rfl); (· omega); (· omega)); (· exact rfl))|refine yv' ?_|refine uv' ?_|refine un' ?_|(refine us' ?_ ?_;all_goals(intro hc;try simp only[hcs]at hc;try(exfalso;first|contradiction|omega)))|apply QL.nil)
        all_goals (show DW _ _ _ _ _ _ _ _))
      all_goals (first | (apply DW.done_thn; (· decide +kernel)) | (apply DW.done; (· decide +kernel)))
      repeat'(first|refine kv' ?_|apply jJ|refine jE' ?_|refine jp' ?_|(apply jc;kernel_rfl)|refine kg' ?_|refine kG' ?_|refine kB' fun _=>?_|refine kA' fun _=>?_|refine kK' fun _=>?_|refine kU' ?_|(apply addX;(iterate 2 exact rfl);(iterate 2(first|omega|(dsimp only;omega)));exact rfl)|((first|refine kR' ?_ ?_|refine kQ' ?_ ?_);all_goals(intro hc;try simp only[hcs]at hc;try(exfalso;first|contradiction|omega))))
      refine At.again (j + 1) (by omega) ?_ ⟨rfl, congrArg Value.bool (by rw [hnext]; rfl), trivial⟩ (fun w' hw' => hw') (by omega)
      (repeat (first | exact Out.refl _ _ | exact Out.mix | (apply Out.upd; (· exact rfl)) | (apply Out.updL; (· exact rfl)) | (apply Out.mixs; (· exact rfl))))
    | false =>
      repeat'(first|(apply CW.reg_heldC)|refine kv' ?_|apply jJ|refine jE' ?_|refine jp' ?_|(apply jc;kernel_rfl)|refine kg' ?_|refine kG' ?_|refine kB' fun _=>?_|refine kA' fun _=>?_|refine kK' fun _=>?_|refine kU' ?_|((first|refine kR' ?_ ?_|refine kQ' ?_ ?_);all_goals(intro hc;try simp only[hcs]at hc;try(exfalso;first|contradiction|omega))))
      all_goals (
        apply DW.quiet [0, 1, 2, 3, 4, 5, 6, 7, 8, 9, 10, 11, 12, 13, 14]
        · decide +kernel
        · first | exact fun _ h => h | exact fun _ h => St.sub h subZ
        repeat'(first|(apply QL.evg; (iterate 3 exact rfl); (· apply Ev.indexAddr; (· exact rfl); (· exact rfl); (· omega); (· omega)); (· exact rfl))|(apply QL.evg; (iterate 3 exact rfl); (· apply Ev.load (v := .int .i64 y.ring); (· exact rfl); (· intro w' hw'; refine pcs_one (hw'.rd_of memZ) hBj 0 rfl ?_; (· omega))); (· exact rfl))|(apply QL.evg; (iterate 3 exact rfl); (· apply Ev.load (v := .int .i64 x.ring); (· exact rfl); (· intro w' hw'; refine pcs_one (hw'.rd_of memZ) hAi 0 rfl ?_; (· omega))); (· exact rfl))|refine yv' ?_|refine uv' ?_|refine un' ?_|(refine us' ?_ ?_;all_goals(intro hc;try simp only[hcs]at hc;try(exfalso;first|contradiction|omega)))|apply QL.nil)
        all_goals (show DW _ _ _ _ _ _ _ _))
      all_goals (first | (apply DW.done_thn; (· decide +kernel)) | (apply DW.done; (· decide +kernel)))
      repeat'(first|refine kv' ?_|apply jJ|refine jE' ?_|refine jp' ?_|(apply jc;kernel_rfl)|refine kg' ?_|refine kG' ?_|refine kB' fun _=>?_|refine kA' fun _=>?_|refine kK' fun _=>?_|refine kU' ?_|(apply addX;(iterate 2 exact rfl);(iterate 2(first|omega|(dsimp only;omega)));exact rfl)|((first|refine kR' ?_ ?_|refine kQ' ?_ ?_);all_goals(intro hc;try simp only[hcs]at hc;try(exfalso;first|contradiction|omega))))
      refine At.again (j + 1) (by omega) ?_ ⟨rfl, congrArg Value.bool (by rw [hnext]; rfl), trivial⟩ (fun w' hw' => hw') (by omega)
      (repeat (first | exact Out.refl _ _ | exact Out.mix | (apply Out.upd; (· exact rfl)) | (apply Out.updL; (· exact rfl)) | (apply Out.mixs; (· exact rfl))))
  have hje : j = B.length := by omega
  subst hje
  rw [List.take_length]
  cases hZ : (B.any fun y => decide (y.ring = x.ring)) with
  | true =>
    repeat'(first|refine kv' ?_|apply jJ|refine jE' ?_|refine jp' ?_|(apply jc;kernel_rfl)|refine kg' ?_|refine kG' ?_|refine kB' fun _=>?_|refine kA' fun _=>?_|refine kK' fun _=>?_|refine kU' ?_|(apply addX;(iterate 2 exact rfl);(iterate 2(first|omega|(dsimp only;omega)));exact rfl)|((first|refine kR' ?_ ?_|refine kQ' ?_ ?_);all_goals(intro hc;try simp only[hcs]at hc;try(exfalso;first|contradiction|omega))))
    refine At.again (i + 1) ⟨by omega, by rw [hnx, hZ]⟩ ?_ ⟨rfl, trivial⟩ (fun w' hw' => hw') (by omega)
    (repeat (first | exact Out.refl _ _ | exact Out.mix | (apply Out.upd; (· exact rfl)) | (apply Out.updL; (· exact rfl)) | (apply Out.mixs; (· exact rfl))))
  | false =>
    repeat'(first|refine kv' ?_|apply jJ|refine jE' ?_|refine jp' ?_|(apply jc;kernel_rfl)|refine kg' ?_|refine kG' ?_|refine kB' fun _=>?_|refine kA' fun _=>?_|refine kK' fun _=>?_|refine kU' ?_|((first|refine kR' ?_ ?_|refine kQ' ?_ ?_);all_goals(intro hc;try simp only[hcs]at hc;try(exfalso;first|contradiction|omega))))
    (apply ret1; (· exact rfl); intro w' hS)
    exact ⟨congrArg Value.bool (hno hZ).symm, hS.toKeep⟩
set_option maxHeartbeats 4000000 in
theorem m7 (p : Pln) (A : PlA) (a : Option Addr) (c : Nat) (K : List Plc) (al : Option Addr) (cl : Nat) (less : List Int) (w : World) (hr : PlR w p A) (hi : PlI p) (hk : Rd w a (pcs K)) (hm : K.length * 32 ≤ 140737488351232) (hl : Rd w al (iv less)) (hml : less.length ≤ 17592186043904) :
    CallsTo Try.prog 7 [p.val A, .slice a K.length c, .slice al less.length cl] w fun v w' => v = .bool true ∧ Grew w w' := by
  refine go_in (n := 61) (((pl_in hr).addRd hk (fun _ _ h => h)).addRd hl (fun _ _ h => h)) Try.func7 rfl rfl ?_
  have hrl := hi.rl
  have hgl := hi.gl
  rw [show p.val A = .agg [.slice A.ra p.R.length A.rc, .slice A.ga p.G.length A.gc].toArray from rfl]
  repeat'(first|(refine kB' fun b3 => ?_)|refine kv' ?_|apply jJ|refine jE' ?_|refine jp' ?_|(apply jc;kernel_rfl)|refine kg' ?_|refine kG' ?_|refine kB' fun _=>?_|refine kA' fun _=>?_|refine kK' fun _=>?_|refine kU' ?_|(apply kq; (· exact rfl); (· intro w1 h1; exact CallsTo.q (m22 w1) h1))|(apply LR.call; (· exact rfl); (intro w1 h1; refine CallsTo.mono (m29 a c K w1 (h1.rd_of memZ) hm) ?_; rintro v w2 ⟨a1, c1, rfl, hn⟩; refine LR.back (h1.newSl hn) ?_; clear hn h1))|((first|refine kR' ?_ ?_|refine kQ' ?_ ?_);all_goals(intro hc;try simp only[hcs]at hc;try(exfalso;first|contradiction|omega))))
  have hnd := oneP_nd K
  have hol := oneP_len K
  generalize oneP K = O at hnd hol ⊢
  refine CW_fact (φ := O ≠ [] → ∃ b o, a1 = some ⟨b, o, none⟩) (fun w' hw' h => (hw'.rd_of_own (E := 44) (sz := 4) (n := O.length) (xs := pcs O) memZ).form (fun e => h (by have := pcs_length O; rw [e] at this; exact List.length_eq_zero_iff.1 (by simp at this; omega)))) fun hf => ?_
  apply CW.loop [7, 8, 9, 15, 16, 17, 18, 19, 20, 21, 22, 23, 24, 25, 26, 27, 28, 29, 30, 31, 32, 33, 34, 35, 36, 37, 38, 39, 40, 41, 42, 43, 44, 45, 46] (fun s : Cst => s.k ≤ O.length) (fun s => [(8, .int .i64 (s.k : Int)), (7, .slice s.a (fewT less 0 (O.take s.k)).length s.c)])
    (fun s => St w NoF [pN s.a (fewT less 0 (O.take s.k)).length s.c (fewT less 0 (O.take s.k)), pN a1 O.length c1 O, .own b3 (.cells [Value.slice A.ra p.R.length A.rc, .slice A.ga p.G.length A.gc].toArray 25 (0, 0)), rdA al (iv less), rdA a (pcs K), rdA A.ga (gv p.G), rdA A.ra (iv p.R)]) (fun s => O.length - s.k)
  · exact fun w' hw' => ⟨⟨0, none, 0⟩, by simp, ⟨rfl, rfl, trivial⟩, hw'.nilsl 44 4⟩
  rintro ⟨i, a7, c7⟩ g hi7
  simp only at hi7 ⊢
  by_cases hlt : i < O.length
  · have hnx := fewT_take less hlt
    have hfl := fewT_len less (O.take i) 0
    rw [List.length_take] at hfl
    obtain ⟨b1, o1, rfl⟩ := hf (fun e => by rw [e] at hlt; simp at hlt)
    obtain ⟨x, hx⟩ : ∃ x, O[i] = x := ⟨_, rfl⟩
    have hOi : O[i]? = some x := by rw [List.getElem?_eq_getElem hlt, hx]
    rw [hx] at hnx
    unfold fewF at hnx
    generalize fewT less 0 (O.take i) = F at hnx hfl ⊢
    by_cases hil : i < less.length
    · rw [dif_pos hil] at hnx
      obtain ⟨bl, ol, rfl⟩ := hl.form (fun e => by have := congrArg List.length e; simp only [iv_length, List.length_nil] at this; omega)
      have hcell : ∀ q, q = i → (iv less)[q]? = some (.int .i64 less[i]) := fun q hq => iv_at hq hil
      generalize less[i] = y at hnx hcell
      by_cases hodd : andI .i64 y 1 = 1
      · rw [if_pos hodd, List.append_nil] at hnx
        repeat'(first|(refine kA' (T := 44) fun b9 => ?_)|(apply LR.ev; (· apply Ev.load_agg_at (cs := [Value.int .i64 x.ring, .int .i64 x.seq, .int .i64 x.rep, .int .i64 x.members]); (· exact rfl); (· exact rfl); (· intro w' hw'; refine pcs_cell (x := x) (hw'.rd_of_own (E := 44) (sz := 4) (n := O.length) (xs := pcs O) memZ) hOi ?_; (· simp; done))); (· exact rfl))|refine kv' ?_|apply jJ|refine jE' ?_|refine jp' ?_|(apply jc;kernel_rfl)|refine kg' ?_|refine kG' ?_|refine kB' fun _=>?_|refine kA' fun _=>?_|refine kK' fun _=>?_|refine kU' ?_|(apply idxX;(iterate 2 exact rfl);(iterate 2(first|omega|(dsimp only;omega)));exact rfl)|(apply addX;(iterate 2 exact rfl);(iterate 2(first|omega|(dsimp only;omega)));exact rfl)|(apply LR.ev; (· apply Ev.load_rd; (· exact rfl); (· repeat (first | exact mH _ _ | apply mT)); (· exact hcell _ (by omega))); (· exact rfl))|((first|refine kR' ?_ ?_|refine kQ' ?_ ?_);all_goals(intro hc;try simp only[hcs]at hc;try(exfalso;first|contradiction|omega))))
        refine At.again (⟨i + 1, a7, c7⟩ : Cst) (by simp only; omega) ?_ ⟨rfl, ?_, trivial⟩ ?_ (by simp only; omega)
        · (repeat (first | exact Out.refl _ _ | exact Out.mix | (apply Out.upd; (· exact rfl)) | (apply Out.updL; (· exact rfl)) | (apply Out.mixs; (· exact rfl))))
        · simp only
          rw [hnx]
          rfl
        · intro w' hw'
          simp only
          rw [hnx]
          exact hw'.sub subZ
      · rw [if_neg hodd] at hnx
        repeat'(first|(refine kA' (T := 44) fun b9 => ?_)|(apply LR.ev; (· apply Ev.load_agg_at (cs := [Value.int .i64 x.ring, .int .i64 x.seq, .int .i64 x.rep, .int .i64 x.members]); (· exact rfl); (· exact rfl); (· intro w' hw'; refine pcs_cell (x := x) (hw'.rd_of_own (E := 44) (sz := 4) (n := O.length) (xs := pcs O) memZ) hOi ?_; (· simp; done))); (· exact rfl))|(apply CW.reg_sinkC 8; (· exact rfl); (· decide +kernel))|refine kv' ?_|apply jJ|refine jE' ?_|refine jp' ?_|(apply jc;kernel_rfl)|refine kg' ?_|refine kG' ?_|refine kB' fun _=>?_|refine kA' fun _=>?_|refine kK' fun _=>?_|refine kU' ?_|(apply idxX;(iterate 2 exact rfl);(iterate 2(first|omega|(dsimp only;omega)));exact rfl)|(apply addX;(iterate 2 exact rfl);(iterate 2(first|omega|(dsimp only;omega)));exact rfl)|(apply LR.ev; (· apply Ev.load_rd; (· exact rfl); (· repeat (first | exact mH _ _ | apply mT)); (· exact hcell _ (by omega))); (· exact rfl))|((first|refine kR' ?_ ?_|refine kQ' ?_ ?_);all_goals(intro hc;try simp only[hcs]at hc;try(exfalso;first|contradiction|omega))))
        all_goals (
          apply DW.quiet [0, 1, 2, 3, 4, 5, 6, 7]
          · decide +kernel
          · first | exact fun _ h => h | exact fun _ h => St.sub h subZ
          repeat'(first|(apply QL.ev; (· exact rfl); (· apply Ev.indexAddr; (· exact rfl); (· exact rfl); (· omega); (· omega)); (· exact rfl))|(apply QL.ev; (· exact rfl); (· apply Ev.load_rd; (· exact rfl); (· (repeat (first | exact mH _ _ | apply mT))); (· exact hcell _ (by omega))); (· exact rfl))|(apply QL.ev; (· exact rfl); (· apply Ev.load (v := .int .i64 x.members); (· exact rfl); (· exact fun w' hw' => hw'.cell_of (b := b9) memZ rfl)); (· exact rfl))|refine yv' ?_|refine uv' ?_|refine un' ?_|(refine us' ?_ ?_;all_goals(intro hc;try simp only[hcs]at hc;try(exfalso;first|contradiction|omega)))|apply QL.nil)
          all_goals (show DW _ _ _ _ _ _ _ _))
        all_goals (apply DW.done; (· decide +kernel))
        all_goals apply At.sink
        repeat'(first|(apply Go.Hb.kK;(iterate 4 exact rfl);intro bs)|refine kv' ?_|apply jJ|refine jE' ?_|refine jp' ?_|(apply jc;kernel_rfl)|refine kg' ?_|refine kG' ?_|refine kB' fun _=>?_|refine kA' fun _=>?_|refine kK' fun _=>?_|refine kU' ?_|(apply addX;(iterate 2 exact rfl);(iterate 2(first|omega|(dsimp only;omega)));exact rfl)|(apply LR.append (xs := pcs F) (news := [Value.int .i64 x.ring, .int .i64 x.seq, .int .i64 x.rep, .int .i64 (andI .i64 x.members y)]) (m := 1); (· exact rfl); (· exact rfl); (· intro a' c'; (repeat (first | exact sH _ _ _ | apply sT))); (· exact fun w' hw' => hw'.rd_of_blk (mH _ _)); (· exact fun hx => by cases hx); (· exact rfl); (· exact rfl); (· omega); (· unfold maxLen; omega); (· exact rfl); (intro a6 c6))|((first|refine kR' ?_ ?_|refine kQ' ?_ ?_);all_goals(intro hc;try simp only[hcs]at hc;try(exfalso;first|contradiction|omega))))
        refine At.again (⟨i + 1, a6, c6⟩ : Cst) (by simp only; omega) ?_ ⟨rfl, ?_, trivial⟩ ?_ (by simp only; omega)
        · (repeat (first | exact Out.refl _ _ | exact Out.mix | (apply Out.upd; (· exact rfl)) | (apply Out.updL; (· exact rfl)) | (apply Out.mixs; (· exact rfl))))
        · simp only
          rw [hnx, List.length_append]
          rfl
        · intro w' hw'
          simp only
          rw [hnx, pN_snoc]
          exact hw'.sub subZ
    · rw [dif_neg hil] at hnx
      repeat'(first|(refine kA' (T := 44) fun b9 => ?_)|(apply LR.ev; (· apply Ev.load_agg_at (cs := [Value.int .i64 x.ring, .int .i64 x.seq, .int .i64 x.rep, .int .i64 x.members]); (· exact rfl); (· exact rfl); (· intro w' hw'; refine pcs_cell (x := x) (hw'.rd_of_own (E := 44) (sz := 4) (n := O.length) (xs := pcs O) memZ) hOi ?_; (· simp; done))); (· exact rfl))|(apply Go.Hb.kK;(iterate 4 exact rfl);intro bs)|refine kv' ?_|apply jJ|refine jE' ?_|refine jp' ?_|(apply jc;kernel_rfl)|refine kg' ?_|refine kG' ?_|refine kB' fun _=>?_|refine kA' fun _=>?_|refine kK' fun _=>?_|refine kU' ?_|(apply idxX;(iterate 2 exact rfl);(iterate 2(first|omega|(dsimp only;omega)));exact rfl)|(apply addX;(iterate 2 exact rfl);(iterate 2(first|omega|(dsimp only;omega)));exact rfl)|(apply LR.append (xs := pcs F) (news := x.cells) (m := 1); (· exact rfl); (· exact rfl); (· intro a' c'; (repeat (first | exact sH _ _ _ | apply sT))); (· exact fun w' hw' => hw'.rd_of_blk (mH _ _)); (· exact fun hx => by cases hx); (· exact rfl); (· exact rfl); (· omega); (· unfold maxLen; omega); (· exact rfl); (intro a6 c6))|((first|refine kR' ?_ ?_|refine kQ' ?_ ?_);all_goals(intro hc;try simp only[hcs]at hc;try(exfalso;first|contradiction|omega))))
      refine At.again (⟨i + 1, a6, c6⟩ : Cst) (by simp only; omega) ?_ ⟨rfl, ?_, trivial⟩ ?_ (by simp only; omega)
      · (repeat (first | exact Out.refl _ _ | exact Out.mix | (apply Out.upd; (· exact rfl)) | (apply Out.updL; (· exact rfl)) | (apply Out.mixs; (· exact rfl))))
      · simp only
        rw [hnx, List.length_append]
        rfl
      · intro w' hw'
        simp only
        rw [hnx, pN_snoc]
        exact hw'.sub subZ
  have hie : i = O.length := by omega
  subst hie
  rw [List.take_length]
  have hfl := fewT_len less O 0
  have hfa := few_among (p := (p.R, p.G)) hnd less
  have hvl := viewP_len (p.R, p.G)
  simp only at hvl
  generalize fewT less 0 O = F at hfl hfa ⊢
  repeat'(first|refine kv' ?_|apply jJ|refine jE' ?_|refine jp' ?_|(apply jc;kernel_rfl)|refine kg' ?_|refine kG' ?_|refine kB' fun _=>?_|refine kA' fun _=>?_|refine kK' fun _=>?_|refine kU' ?_|((first|refine kR' ?_ ?_|refine kQ' ?_ ?_);all_goals(intro hc;try simp only[hcs]at hc;try(exfalso;first|contradiction|omega))))
  apply CW.loop [6, 10, 47, 48, 49, 50, 51, 52, 53, 54, 55, 56, 57, 58, 59, 60] (fun i : Nat => i ≤ 4) (fun i : Nat => [(10, Value.int .i64 (i : Int))])
    (fun _ => St w NoF [pN a7 F.length c7 F, pN a1 O.length c1 O, .own b3 (.cells [Value.slice A.ra p.R.length A.rc, .slice A.ga p.G.length A.gc].toArray 25 (0, 0)), rdA al (iv less), rdA a (pcs K), rdA A.ga (gv p.G), rdA A.ra (iv p.R)]) (fun i => 4 - i)
  · exact fun w' hw' => ⟨0, Nat.zero_le _, ⟨rfl, trivial⟩, hw'⟩
  intro i g hi4
  by_cases hlt : i < 4
  rotate_left
  · have hie : i = 4 := by omega
    subst hie
    repeat'(first|refine kv' ?_|apply jJ|refine jE' ?_|refine jp' ?_|(apply jc;kernel_rfl)|refine kg' ?_|refine kG' ?_|refine kB' fun _=>?_|refine kA' fun _=>?_|refine kK' fun _=>?_|refine kU' ?_|((first|refine kR' ?_ ?_|refine kQ' ?_ ?_);all_goals(intro hc;try simp only[hcs]at hc;try(exfalso;first|contradiction|omega))))
    (apply ret1; (· exact rfl); intro w' hS)
    exact ⟨rfl, hS.toKeep⟩
  have hfi := hfa (i : Int)
  have hv1 := hvl (i : Int) F
  have hv2 := hvl (i : Int) O
  generalize hVa : viewP (p.R, p.G) (i : Int) F = VA at hfi hv1
  generalize hVb : viewP (p.R, p.G) (i : Int) O = VB at hfi hv2
  repeat'(first|(apply CW.reg_heldC)|refine kv' ?_|apply jJ|refine jE' ?_|refine jp' ?_|(apply jc;kernel_rfl)|refine kg' ?_|refine kG' ?_|refine kB' fun _=>?_|refine kA' fun _=>?_|refine kK' fun _=>?_|refine kU' ?_|((first|refine kR' ?_ ?_|refine kQ' ?_ ?_);all_goals(intro hc;try simp only[hcs]at hc;try(exfalso;first|contradiction|omega))))
  all_goals (
    apply DW.quiet [0, 1, 2, 4, 5, 6]
    · decide +kernel
    · first | exact fun _ h => h | exact fun _ h => St.sub h subZ
    repeat'(first|refine yv' ?_|refine uv' ?_|refine un' ?_|(refine us' ?_ ?_;all_goals(intro hc;try simp only[hcs]at hc;try(exfalso;first|contradiction|omega)))|apply QL.nil)
    all_goals (show DW _ _ _ _ _ _ _ _))
  all_goals (
    apply DW.loud 3
    · exact rfl
    · decide +kernel
    repeat'(first|refine kg' ?_|refine kG' ?_|apply kM|refine kv' ?_|refine kK' fun _=>?_|refine kU' ?_|refine kB' fun _=>?_|refine kA' fun _=>?_|(apply kq; (· exact rfl); (· intro w1 h1; have hq := CallsTo.q (show CallsTo Try.prog 30 [.slice a8 VA.length c8, .slice a9 VB.length c9] w1 _ from m30 a8 a9 c8 c9 VA VB w1 (h1.rd_of_own memZ) (h1.rd_of_own memZ) (by omega) (by omega)) h1; rw [hfi] at hq; exact hq))|(apply LR.call; (· exact rfl); (intro w1 h1; first | (refine CallsTo.mono (show CallsTo Try.prog 24 [p.val A, .int .i64 (i : Int), .slice a7 F.length c7] w1 _ from m24 p A hi _ F a7 c7 w1 ⟨h1.rd_of memZ, h1.rd_of memZ⟩ (h1.rd_of_own memZ) (by omega)) ?_; rintro v w2 ⟨a8, c8, rfl, hn⟩; rw [hVa] at hn ⊢; refine LR.back (h1.newSl hn) ?_; clear hn h1) | (refine CallsTo.mono (show CallsTo Try.prog 24 [p.val A, .int .i64 (i : Int), .slice a1 O.length c1] w1 _ from m24 p A hi _ O a1 c1 w1 ⟨h1.rd_of memZ, h1.rd_of memZ⟩ (h1.rd_of_own memZ) (by omega)) ?_; rintro v w2 ⟨a9, c9, rfl, hn⟩; rw [hVb] at hn ⊢; refine LR.back (h1.newSl hn) ?_; clear hn h1))))
    all_goals (refine At.stage_same (fun _ h => St.sub h subZ) ?_))
  all_goals (
    apply DW.loud 7
    · exact rfl
    · decide +kernel
    repeat'(first|refine kg' ?_|refine kG' ?_|apply kM|refine kv' ?_|refine kK' fun _=>?_|refine kU' ?_|refine kB' fun _=>?_|refine kA' fun _=>?_|(apply kq; (· exact rfl); (· intro w1 h1; have hq := CallsTo.q (show CallsTo Try.prog 30 [.slice a8 VA.length c8, .slice a9 VB.length c9] w1 _ from m30 a8 a9 c8 c9 VA VB w1 (h1.rd_of_own memZ) (h1.rd_of_own memZ) (by omega) (by omega)) h1; rw [hfi] at hq; exact hq))|(apply LR.call; (· exact rfl); (intro w1 h1; first | (refine CallsTo.mono (show CallsTo Try.prog 24 [p.val A, .int .i64 (i : Int), .slice a7 F.length c7] w1 _ from m24 p A hi _ F a7 c7 w1 ⟨h1.rd_of memZ, h1.rd_of memZ⟩ (h1.rd_of_own memZ) (by omega)) ?_; rintro v w2 ⟨a8, c8, rfl, hn⟩; rw [hVa] at hn ⊢; refine LR.back (h1.newSl hn) ?_; clear hn h1) | (refine CallsTo.mono (show CallsTo Try.prog 24 [p.val A, .int .i64 (i : Int), .slice a1 O.length c1] w1 _ from m24 p A hi _ O a1 c1 w1 ⟨h1.rd_of memZ, h1.rd_of memZ⟩ (h1.rd_of_own memZ) (by omega)) ?_; rintro v w2 ⟨a9, c9, rfl, hn⟩; rw [hVb] at hn ⊢; refine LR.back (h1.newSl hn) ?_; clear hn h1))))
    all_goals (refine At.stage_same (fun _ h => St.sub h subZ) ?_))
  all_goals (
    apply DW.loud 8
    · exact rfl
    · decide +kernel
    repeat'(first|refine kg' ?_|refine kG' ?_|apply kM|refine kv' ?_|refine kK' fun _=>?_|refine kU' ?_|refine kB' fun _=>?_|refine kA' fun _=>?_|(apply kq; (· exact rfl); (· intro w1 h1; have hq := CallsTo.q (show CallsTo Try.prog 30 [.slice a8 VA.length c8, .slice a9 VB.length c9] w1 _ from m30 a8 a9 c8 c9 VA VB w1 (h1.rd_of_own memZ) (h1.rd_of_own memZ) (by omega) (by omega)) h1; rw [hfi] at hq; exact hq))|(apply LR.call; (· exact rfl); (intro w1 h1; first | (refine CallsTo.mono (show CallsTo Try.prog 24 [p.val A, .int .i64 (i : Int), .slice a7 F.length c7] w1 _ from m24 p A hi _ F a7 c7 w1 ⟨h1.rd_of memZ, h1.rd_of memZ⟩ (h1.rd_of_own memZ) (by omega)) ?_; rintro v w2 ⟨a8, c8, rfl, hn⟩; rw [hVa] at hn ⊢; refine LR.back (h1.newSl hn) ?_; clear hn h1) | (refine CallsTo.mono (show CallsTo Try.prog 24 [p.val A, .int .i64 (i : Int), .slice a1 O.length c1] w1 _ from m24 p A hi _ O a1 c1 w1 ⟨h1.rd_of memZ, h1.rd_of memZ⟩ (h1.rd_of_own memZ) (by omega)) ?_; rintro v w2 ⟨a9, c9, rfl, hn⟩; rw [hVb] at hn ⊢; refine LR.back (h1.newSl hn) ?_; clear hn h1))))
    all_goals (refine At.stage_same (fun _ h => St.sub h subZ) ?_))
  all_goals (
    apply DW.quiet [9]
    · decide +kernel
    · first | exact fun _ h => h | exact fun _ h => St.sub h subZ
    repeat'(first|refine yv' ?_|refine uv' ?_|refine un' ?_|(refine us' ?_ ?_;all_goals(intro hc;try simp only[hcs]at hc;try(exfalso;first|contradiction|omega)))|apply QL.nil)
    all_goals (show DW _ _ _ _ _ _ _ _))
  all_goals (first | (apply DW.done_thn; (· decide +kernel)) | (apply DW.done; (· decide +kernel)))
  repeat'(first|refine kv' ?_|apply jJ|refine jE' ?_|refine jp' ?_|(apply jc;kernel_rfl)|refine kg' ?_|refine kG' ?_|refine kB' fun _=>?_|refine kA' fun _=>?_|refine kK' fun _=>?_|refine kU' ?_|(apply addX;(iterate 2 exact rfl);(iterate 2(first|omega|(dsimp only;omega)));exact rfl)|((first|refine kR' ?_ ?_|refine kQ' ?_ ?_);all_goals(intro hc;try simp only[hcs]at hc;try(exfalso;first|contradiction|omega))))
  refine At.again (i + 1) (by omega) ?_ ⟨rfl, trivial⟩ (fun w' hw' => hw'.sub subZ) (by omega)
  (repeat (first | exact Out.refl _ _ | exact Out.mix | (apply Out.upd; (· exact rfl)) | (apply Out.updL; (· exact rfl)) | (apply Out.mixs; (· exact rfl))))
end Go.Proofs.Ytgblmkpfkcibiaa

namespace Go.Proofs.Ytgblmkpfkcibiaa
open Go.Hb Go.ChangeShapes Go.WideShapes
attribute [local irreducible] LR CW At Ev thn blk finK noG again CallsTo DW QL dnext

set_option maxHeartbeats 1000000 in
set_option maxRecDepth 100000 in
theorem chartFewer_lifted (os : Os) (started : os.Started) (H : Type) (enc : TypeId × Value → H) :
    ReturnsInHanded {} Try.checked os 7 .any (Rows.chartFewerSpec.pre6 enc Try.prog Try.f7 Rows.chartFewerRow.domain false) (Rows.chartFewerSpec.post enc Try.prog Try.f7 false true false false) := by
  refine returnsInHanded_of_change_sized (C := Try.checked) (s := Rows.chartFewerSpec) own_knob started (by kernel_rfl) Try.func7
    (ChangeSpec.witness6 (enc := enc) (C := Try.checked) false ⟨#[], #[.agg #[.slice none 0 0, .slice none 0 0], .slice none 0 0, .slice none 0 0], []⟩ 12 (by kernel_rfl) (by kernel_rfl) (by kernel_rfl) (by kernel_rfl)) ?_
  intro W base args ds gs before hval hW hcnd hwt _
  have hW' := hW
  obtain ⟨p, q, hA0, hV, rfl, hfz, hnd⟩ := hW'
  obtain ⟨rfl, rfl⟩ := trodVars_none hV
  have hA : DataW.TrodAll enc Try.prog W 0 (fun _ => true) true Try.f7.params.toList args.toList ds p := hA0
  rw [Try.params7] at hA
  obtain ⟨v0, vs0, d0, ds0, p0, q0, hargs, rfl, rfl, h0, r0⟩ := trodAll_cons hA
  obtain ⟨v1, vs1, d1, ds1, p1, q1, rfl, rfl, rfl, h1, r1⟩ := trodAll_cons r0
  obtain ⟨v2, vs2, d2, ds2, p2, q2, rfl, rfl, rfl, h2, r2⟩ := trodAll_cons r1
  obtain ⟨rfl, rfl, rfl⟩ := trodAll_nil r2
  obtain rfl : args = #[v0, v1, v2] := by cases args; simp_all
  obtain ⟨p0, A0, hcs0, hr0, hi0, hzr0, hzg0⟩ := opn_arg (i := 0) opn_plan h0 hwt rfl rfl
  obtain ⟨cs0, rfl, _⟩ := okWide_struct Try.underlying25 (hval 0 25 v0 rfl rfl)
  obtain rfl : cs0 = (Pln.cells p0 A0).toArray := Array.toList_inj.1 hcs0
  obtain ⟨a1, c1, l1, hcs1, hr1, hb1, hz1, hc1, hm1⟩ := opn_arg (i := 1) opn_plcs h1 hwt rfl rfl
  obtain ⟨b1, n1, e1, rfl⟩ := okWide_slice Try.underlying37 (hval 1 37 v1 rfl rfl)
  have hcs1 : [Value.slice b1 n1 e1] = [.slice a1 l1.length c1] := hcs1
  simp only [List.cons.injEq, Value.slice.injEq, and_true] at hcs1
  obtain ⟨e11, e21, e31⟩ := hcs1
  have e11 := e11.symm
  have e31 := e31.symm
  subst e11; subst e21; subst e31
  obtain ⟨a2, c2, l2, hcs2, hr2, hb2, hz2, hc2, hm2⟩ := opn_arg (i := 2) opn_ints h2 hwt rfl rfl
  obtain ⟨b2, n2, e2, rfl⟩ := okWide_slice Try.underlying22 (hval 2 22 v2 rfl rfl)
  have hcs2 : [Value.slice b2 n2 e2] = [.slice a2 l2.length c2] := hcs2
  simp only [List.cons.injEq, Value.slice.injEq, and_true] at hcs2
  obtain ⟨e12, e22, e32⟩ := hcs2
  have e12 := e12.symm
  have e32 := e32.symm
  subst e12; subst e22; subst e32
  refine (m7 p0 A0 a1 c1 l1 a2 c2 l2 W hr0 hi0 hr1 hm1 hr2 hm2).calls fun v W' ⟨hv, hg⟩ => ⟨v, rfl, ?_⟩
  subst hv
  exact law_post kids full_slices hW hg rfl rfl (by kernel_rfl) Try.underlying4 (by rw [Try.params7]; decide +kernel)

theorem chartFewer_holds : Rows.ChartFewerSaid :=
  OpenClaim.holds_of_wide 7 Try.f7 rfl rfl rfl rfl rfl rfl rfl ⟨rfl, rfl, rfl, rfl, rfl⟩ rfl rfl rfl rfl rfl (by kernel_rfl) Try.func7 (by kernel_rfl)
    (of_decide_eq_true (by kernel_rfl)) (by unfold Func.isWrapper; first | (rw [if_pos (by decide +kernel)]; kernel_rfl) | (rw [if_neg (by decide +kernel)]; exact ⟨rfl, rfl⟩))
    (fun os started H enc _ => chartFewer_lifted os started H enc)
end Go.Proofs.Ytgblmkpfkcibiaa
