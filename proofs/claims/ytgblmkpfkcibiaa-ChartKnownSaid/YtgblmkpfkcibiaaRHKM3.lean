/-
  The first place of each ring; lists of places one of which holds the other's rings; the law of fewer places.
-/
import Derived.Test.YtgblmkpfkcibiaaRHKM2
import Derived.OpenShut

set_option linter.unusedSimpArgs false
set_option linter.unusedVariables false
namespace Go.Proofs.Ytgblmkpfkcibiaa
open Go.Hb
attribute [local irreducible] LR CW At Ev thn blk finK noG again CallsTo DW QL dnext TW DP gpost
set_option maxRecDepth 100000

theorem m64 (y x : Plc) (bx : Nat) (w : World) (h : Rd w (some ⟨bx, 0, none⟩) x.cells) : CallsTo Try.prog 64 [y.val, .pointer (some ⟨bx, 0, none⟩)] w fun v w' => v = .bool (decide (y.ring = x.ring)) ∧ Grew w w' := by
  refine go_in (n := 9) (St.rd1 h) Try.func64 rfl rfl ?_
  repeat'(first|refine kv' ?_|apply jJ|refine jE' ?_|refine jp' ?_|(apply jc;kernel_rfl)|refine kg' ?_|refine kG' ?_|refine kB' fun _=>?_|refine kA' fun _=>?_|refine kK' fun _=>?_|refine kU' ?_|((first|refine kR' ?_ ?_|refine kQ' ?_ ?_);all_goals(intro hc;try simp only[hcs]at hc;try(exfalso;first|contradiction|omega))))
  (apply ret1; (· exact rfl); intro w' hS)
  exact ⟨rfl, hS.toKeep⟩
theorem m88 (a : Option Addr) (c : Nat) (D : List Plc) (x : Plc) (bx : Nat) (w : World) (hk : Rd w a (pcs D)) (hb : Rd w (some ⟨bx, 0, none⟩) x.cells) (hm : D.length ≤ 140737488355328)
    (i0 : Nat) (h0 : i0 ≤ D.length) (hno : ∀ k, (hk : k < i0) → ¬ (D[k]'(by omega)).ring = x.ring) (hend : (h : i0 < D.length) → (D[i0]'h).ring = x.ring) :
    CallsTo Try.prog 88 [.slice a D.length c, .func (.func 64) #[] #[.pointer (some ⟨bx, 0, none⟩)]] w fun v w' => v = .int .i64 (if i0 < D.length then (i0 : Int) else -1) ∧ Grew w w' := by
  refine go_in (n := 19) ((St.rd1 hk).addRd hb (fun _ _ h => h)) Try.func88 rfl rfl ?_
  repeat'(first|refine kv' ?_|apply jJ|refine jE' ?_|refine jp' ?_|(apply jc;kernel_rfl)|refine kg' ?_|refine kG' ?_|refine kB' fun _=>?_|refine kA' fun _=>?_|refine kK' fun _=>?_|refine kU' ?_|((first|refine kR' ?_ ?_|refine kQ' ?_ ?_);all_goals(intro hc;try simp only[hcs]at hc;try(exfalso;first|contradiction|omega))))
  apply CW.loop [4, 5, 8, 9, 10, 11, 12, 13, 14, 15, 16, 17, 18] (fun i : Nat => i ≤ i0) (fun i => [(8, .int .i64 (i : Int))]) (fun _ => St w NoF [rdA (some ⟨bx, 0, none⟩) x.cells, rdA a (pcs D)]) (fun i => i0 - i)
  · exact fun w' hw' => ⟨0, by omega, ⟨rfl, trivial⟩, hw'⟩
  intro i g hi
  by_cases hlt : i < D.length
  · obtain ⟨ba, oa, rfl⟩ := hk.form (fun e => by have h1 := congrArg List.length e; rw [pcs_length, List.length_nil] at h1; omega)
    obtain ⟨y, hy⟩ : ∃ y, D[i] = y := ⟨_, rfl⟩
    have hly : D[i]? = some y := by rw [List.getElem?_eq_getElem hlt, hy]
    by_cases hx : y.ring = x.ring
    · have hie : i = i0 := by
        rcases Nat.lt_or_ge i i0 with h | h
        · exact absurd (by rw [hy]; exact hx) (hno i h)
        · omega
      subst hie
      rw [if_pos hlt]
      repeat'(first|(apply LR.ev; (· apply Ev.load_agg_at (cs := y.cells); (· exact rfl); (· exact rfl); (· intro w' hw'; refine pcs_cell (x := y) (hw'.rd_of memZ) hly ?_; (· simp; done))); (· exact rfl))|refine kv' ?_|apply jJ|refine jE' ?_|refine jp' ?_|(apply jc;kernel_rfl)|refine kg' ?_|refine kG' ?_|refine kB' fun _=>?_|refine kA' fun _=>?_|refine kK' fun _=>?_|refine kU' ?_|(apply idxX;(iterate 2 exact rfl);(iterate 2(first|omega|(dsimp only;omega)));exact rfl)|(apply LR.qcall_val (g := 64) (cap := [.pointer (some ⟨bx, 0, none⟩)]) (v := .bool true); (· exact rfl); (· exact rfl); (· intro w1 h1; have hq := CallsTo.q (m64 y x bx w1 (h1.rd_of memZ)) h1; rw [decide_eq_true hx] at hq; exact hq))|((first|refine kR' ?_ ?_|refine kQ' ?_ ?_);all_goals(intro hc;try simp only[hcs]at hc;try(exfalso;first|contradiction|omega))))
      (apply ret1; (· exact rfl); intro w' hS)
      exact ⟨rfl, hS.toKeep⟩
    · have hlt2 : i < i0 := by
        rcases Nat.lt_or_ge i i0 with h | h
        · exact h
        · have e : i = i0 := by omega
          subst e
          exact absurd (by rw [← hy]; exact hend hlt) hx
      repeat'(first|(apply LR.ev; (· apply Ev.load_agg_at (cs := y.cells); (· exact rfl); (· exact rfl); (· intro w' hw'; refine pcs_cell (x := y) (hw'.rd_of memZ) hly ?_; (· simp; done))); (· exact rfl))|refine kv' ?_|apply jJ|refine jE' ?_|refine jp' ?_|(apply jc;kernel_rfl)|refine kg' ?_|refine kG' ?_|refine kB' fun _=>?_|refine kA' fun _=>?_|refine kK' fun _=>?_|refine kU' ?_|(apply idxX;(iterate 2 exact rfl);(iterate 2(first|omega|(dsimp only;omega)));exact rfl)|(apply addX;(iterate 2 exact rfl);(iterate 2(first|omega|(dsimp only;omega)));exact rfl)|(apply LR.qcall_val (g := 64) (cap := [.pointer (some ⟨bx, 0, none⟩)]) (v := .bool false); (· exact rfl); (· exact rfl); (· intro w1 h1; have hq := CallsTo.q (m64 y x bx w1 (h1.rd_of memZ)) h1; rw [decide_eq_false hx] at hq; exact hq))|((first|refine kR' ?_ ?_|refine kQ' ?_ ?_);all_goals(intro hc;try simp only[hcs]at hc;try(exfalso;first|contradiction|omega))))
      refine At.again (i + 1) (by omega) ?_ ⟨rfl, trivial⟩ (fun w' hw' => hw') (by omega)
      (repeat (first | exact Out.refl _ _ | exact Out.mix | (apply Out.upd; (· exact rfl)) | (apply Out.updL; (· exact rfl)) | (apply Out.mixs; (· exact rfl))))
  · have hie : i = D.length := by omega
    subst hie
    rw [if_neg (by omega)]
    repeat'(first|refine kv' ?_|apply jJ|refine jE' ?_|refine jp' ?_|(apply jc;kernel_rfl)|refine kg' ?_|refine kG' ?_|refine kB' fun _=>?_|refine kA' fun _=>?_|refine kK' fun _=>?_|refine kU' ?_|((first|refine kR' ?_ ?_|refine kQ' ?_ ?_);all_goals(intro hc;try simp only[hcs]at hc;try(exfalso;first|contradiction|omega))))
    (apply ret1; (· exact rfl); intro w' hS)
    exact ⟨rfl, hS.toKeep⟩
def noP (D : List Plc) (r : Int) : List Plc := D.filter fun y => decide (y.ring ≠ r)
theorem noP_len (D : List Plc) (r : Int) : (noP D r).length ≤ D.length := List.length_filter_le _ _
theorem first_of (D : List Plc) (r : Int) : ∃ i0, i0 ≤ D.length ∧ (∀ k, k < i0 → ∀ y, D[k]? = some y → ¬ y.ring = r) ∧ (∀ y, D[i0]? = some y → y.ring = r) := by
  induction D with
  | nil => exact ⟨0, Nat.le_refl _, fun k hk => by omega, fun y hy => by cases hy⟩
  | cons z D ih =>
    by_cases hz : z.ring = r
    · exact ⟨0, Nat.zero_le _, fun k hk => by omega, fun y hy => by simp at hy; rw [← hy]; exact hz⟩
    · obtain ⟨i, h1, h2, h3⟩ := ih
      refine ⟨i + 1, by simp; omega, fun k hk y hy => ?_, fun y hy => h3 y (by simpa using hy)⟩
      cases k with
      | zero => simp at hy; rw [← hy]; exact hz
      | succ k => exact h2 k (by omega) y (by simpa using hy)
structure DelI (D : List Plc) (r : Int) (j i : Nat) (D' : List Plc) : Prop where
  ij : i < j
  jl : j ≤ D.length
  len : D'.length = D.length
  pre : D'.take i = noP (D.take j) r
  suf : ∀ k, j ≤ k → D'[k]? = D[k]?
theorem DelI.skip {D D' : List Plc} {r : Int} {j i : Nat} (h : DelI D r j i D') (hj : j < D.length) (hx : (D[j]'hj).ring = r) : DelI D r (j + 1) i D' := by
  refine ⟨by have := h.ij; omega, hj, h.len, ?_, fun k hk => h.suf k (by omega)⟩
  rw [h.pre]
  unfold noP
  rw [filter_take D _ hj, if_neg (by simp [hx]), List.append_nil]
theorem DelI.keep {D D' : List Plc} {r : Int} {j i : Nat} (h : DelI D r j i D') (hj : j < D.length) (hx : ¬ (D[j]'hj).ring = r) : DelI D r (j + 1) (i + 1) (D'.set i (D[j]'hj)) := by
  have hij := h.ij
  have hl := h.len
  refine ⟨by omega, hj, by rw [List.length_set]; exact hl, ?_, fun k hk => ?_⟩
  · rw [List.take_add_one, List.getElem?_set_self (by omega), List.take_set_of_le (Nat.le_refl _), h.pre]
    unfold noP
    rw [filter_take D _ hj, if_pos (by simp [hx])]
    rfl
  · rw [List.getElem?_set_ne (by omega)]
    exact h.suf k (by omega)
set_option maxHeartbeats 2000000 in
theorem m63 (a : Option Addr) (c : Nat) (D : List Plc) (x : Plc) (bx : Nat) (w : World) (h : (pN a D.length c D).holds w) (hb : Rd w (some ⟨bx, 0, none⟩) x.cells) (hd : ∀ k, rdFoot (some ⟨bx, 0, none⟩) x.cells k → ¬ (pN a D.length c D).foot k) (hm : D.length ≤ 140737488355328) :
    CallsTo Try.prog 63 [.slice a D.length c, .func (.func 64) #[] #[.pointer (some ⟨bx, 0, none⟩)]] w fun v w' => v = .slice a (noP D x.ring).length c ∧ Step (pN a D.length c D) (pN a (noP D x.ring).length c (noP D x.ring)) w w' := by
  have hown : w.ownsRow 0 44 4 (.slice a D.length c) D.length (pcs D) := h
  have hcap := ownsRow_cap hown
  have hS0 : St w (pN a D.length c D).foot [rdA (some ⟨bx, 0, none⟩) x.cells, pN a D.length c D] w := (St.one h (fun k hk => (World.ownsRow.lt h k hk).2) (osl.dep _ _ _ _ _)).addRd hb hd
  generalize hF : (pN a D.length c D).foot = F at *
  refine go_in (n := 42) hS0 Try.func63 rfl rfl ?_
  obtain ⟨i0, hi0, hno, hend⟩ := first_of D x.ring
  have h88 : ∀ w1, St w F [rdA (some ⟨bx, 0, none⟩) x.cells, pN a D.length c D] w1 → CallsTo Try.prog 88 [.slice a D.length c, .func (.func 64) #[] #[.pointer (some ⟨bx, 0, none⟩)]] w1 fun v w' => v = .int .i64 (if i0 < D.length then (i0 : Int) else -1) ∧ St w F [rdA (some ⟨bx, 0, none⟩) x.cells, pN a D.length c D] w' := fun w1 h1 =>
    CallsTo.q (m88 a c D x bx w1 (h1.rd_of_own memZ) (h1.rd_of memZ) hm i0 hi0 (fun k hk => hno k hk _ (List.getElem?_eq_getElem (by omega))) (fun hh => hend _ (List.getElem?_eq_getElem hh))) h1
  by_cases hlt : i0 < D.length
  rotate_left
  · rw [if_neg hlt] at h88
    have hnn : noP D x.ring = D := by
      unfold noP
      rw [List.filter_eq_self]
      intro y hy
      obtain ⟨k, hk, rfl⟩ := List.getElem_of_mem hy
      have := hno k (by omega) _ (List.getElem?_eq_getElem hk)
      simpa using this
    rw [hnn]
    repeat'(first|refine kv' ?_|apply jJ|refine jE' ?_|refine jp' ?_|(apply jc;kernel_rfl)|refine kg' ?_|refine kG' ?_|refine kB' fun _=>?_|refine kA' fun _=>?_|refine kK' fun _=>?_|refine kU' ?_|(apply kq; (· exact rfl); (· intro w1 h1; exact h88 w1 h1))|((first|refine kR' ?_ ?_|refine kQ' ?_ ?_);all_goals(intro hc;try simp only[hcs]at hc;try(exfalso;first|contradiction|omega))))
    (apply ret1; (· exact rfl); intro w' hS)
    subst hF
    exact ⟨rfl, (hS.sub (L' := [pN a D.length c D]) subZ).step rfl⟩
  rw [if_pos hlt] at h88
  obtain ⟨ba, oa, rfl⟩ := (ownsRow_rd hown).form (fun e => by have h1 := congrArg List.length e; rw [pcs_length, List.length_nil] at h1; omega)
  have hI0 : DelI D x.ring (i0 + 1) i0 D := by
    refine ⟨by omega, by omega, rfl, ?_, fun k hk => rfl⟩
    unfold noP
    rw [filter_take D _ hlt, if_neg (by have := hend _ (List.getElem?_eq_getElem hlt); simp [this]), List.append_nil, eq_comm, List.filter_eq_self]
    intro y hy
    obtain ⟨k, hk, rfl⟩ := List.getElem_of_mem hy
    rw [List.length_take] at hk
    rw [List.getElem_take]
    have := hno k (by omega) _ (List.getElem?_eq_getElem (by omega))
    simpa using this
  repeat'(first|refine kv' ?_|apply jJ|refine jE' ?_|refine jp' ?_|(apply jc;kernel_rfl)|refine kg' ?_|refine kG' ?_|refine kB' fun _=>?_|refine kA' fun _=>?_|refine kK' fun _=>?_|refine kU' ?_|(apply addX;(iterate 2 exact rfl);(iterate 2(first|omega|(dsimp only;omega)));exact rfl)|(apply kq; (· exact rfl); (· intro w1 h1; exact h88 w1 h1))|((first|refine kR' ?_ ?_|refine kQ' ?_ ?_);all_goals(intro hc;try simp only[hcs]at hc;try(exfalso;first|contradiction|omega))))
  apply CW.loop [5, 6, 7, 16, 17, 18, 19, 20, 21, 22, 23, 24, 25, 26, 27, 28, 29, 30, 31, 32, 33, 34, 35] (fun s : Nat × Nat × List Plc => DelI D x.ring s.1 s.2.1 s.2.2) (fun s => [(5, .int .i64 (s.2.1 : Int)), (6, .int .i64 (s.1 : Int))])
    (fun s => St w F [rdA (some ⟨bx, 0, none⟩) x.cells, pN (some ⟨ba, oa, none⟩) D.length c s.2.2]) (fun s => D.length - s.1)
  · exact fun w' hw' => ⟨(i0 + 1, i0, D), hI0, ⟨rfl, rfl, trivial⟩, hw'⟩
  rintro ⟨j, i, D'⟩ g hI
  simp only at hI ⊢
  have hij := hI.ij
  have hjl := hI.jl
  have hDl := hI.len
  by_cases hlt2 : j < D.length
  · obtain ⟨y, hy⟩ : ∃ y, D[j] = y := ⟨_, rfl⟩
    have hly : D'[j]? = some y := by rw [hI.suf j (Nat.le_refl _), List.getElem?_eq_getElem hlt2, hy]
    have hskip := hI.skip hlt2
    have hkeep := hI.keep hlt2
    rw [hy] at hskip hkeep
    by_cases hx : y.ring = x.ring
    · have hskip := hskip hx
      repeat'(first|(apply LR.ev; (· apply Ev.load_agg_at (cs := [Value.int .i64 y.ring, .int .i64 y.seq, .int .i64 y.rep, .int .i64 y.members]); (· exact rfl); (· exact rfl); (· intro w' hw'; refine pcs_cell (x := y) (hw'.rd_of_own memZ) hly ?_; (· simp; done))); (· exact rfl))|refine kv' ?_|apply jJ|refine jE' ?_|refine jp' ?_|(apply jc;kernel_rfl)|refine kg' ?_|refine kG' ?_|refine kB' fun _=>?_|refine kA' fun _=>?_|refine kK' fun _=>?_|refine kU' ?_|(apply idxX;(iterate 2 exact rfl);(iterate 2(first|omega|(dsimp only;omega)));exact rfl)|(apply addX;(iterate 2 exact rfl);(iterate 2(first|omega|(dsimp only;omega)));exact rfl)|(apply LR.qcall_val (g := 64) (cap := [.pointer (some ⟨bx, 0, none⟩)]) (v := .bool true); (· exact rfl); (· exact rfl); (· intro w1 h1; have hq := CallsTo.q (m64 y x bx w1 (h1.rd_of memZ)) h1; rw [decide_eq_true hx] at hq; exact hq))|((first|refine kR' ?_ ?_|refine kQ' ?_ ?_);all_goals(intro hc;try simp only[hcs]at hc;try(exfalso;first|contradiction|omega))))
      refine At.again (j + 1, i, D') hskip ?_ ⟨rfl, rfl, trivial⟩ (fun w' hw' => hw'.sub subZ) (by show D.length - (j + 1) < D.length - j; omega)
      (repeat (first | exact Out.refl _ _ | exact Out.mix | (apply Out.upd; (· exact rfl)) | (apply Out.updL; (· exact rfl)) | (apply Out.mixs; (· exact rfl))))
    · have hkeep := hkeep hx
      repeat'(first|(apply LR.ev; (· apply Ev.load_agg_at (cs := [Value.int .i64 y.ring, .int .i64 y.seq, .int .i64 y.rep, .int .i64 y.members]); (· exact rfl); (· exact rfl); (· intro w' hw'; refine pcs_cell (x := y) (hw'.rd_of_own memZ) hly ?_; (· simp; done))); (· exact rfl))|refine kv' ?_|apply jJ|refine jE' ?_|refine jp' ?_|(apply jc;kernel_rfl)|refine kg' ?_|refine kG' ?_|refine kB' fun _=>?_|refine kA' fun _=>?_|refine kK' fun _=>?_|refine kU' ?_|(apply idxX;(iterate 2 exact rfl);(iterate 2(first|omega|(dsimp only;omega)));exact rfl)|(apply addX;(iterate 2 exact rfl);(iterate 2(first|omega|(dsimp only;omega)));exact rfl)|(apply LR.qcall_val (g := 64) (cap := [.pointer (some ⟨bx, 0, none⟩)]) (v := .bool false); (· exact rfl); (· exact rfl); (· intro w1 h1; have hq := CallsTo.q (m64 y x bx w1 (h1.rd_of memZ)) h1; rw [decide_eq_false hx] at hq; exact hq))|((first|refine kR' ?_ ?_|refine kQ' ?_ ?_);all_goals(intro hc;try simp only[hcs]at hc;try(exfalso;first|contradiction|omega))))
      refine LR.store_obj (v := y.val) rfl rfl (Sel.tail _ (Sel.tail _ (Sel.head _ _ _))) rfl (put_plc (l := D') y (k := i) (by omega) (by omega)) (osl.dep _ _ _ _ _) ?_
      repeat'(first|refine kv' ?_|apply jJ|refine jE' ?_|refine jp' ?_|(apply jc;kernel_rfl)|refine kg' ?_|refine kG' ?_|refine kB' fun _=>?_|refine kA' fun _=>?_|refine kK' fun _=>?_|refine kU' ?_|(apply addX;(iterate 2 exact rfl);(iterate 2(first|omega|(dsimp only;omega)));exact rfl)|((first|refine kR' ?_ ?_|refine kQ' ?_ ?_);all_goals(intro hc;try simp only[hcs]at hc;try(exfalso;first|contradiction|omega))))
      refine At.again (j + 1, i + 1, D'.set i y) hkeep ?_ ⟨?_, rfl, trivial⟩ (fun w' hw' => hw'.sub subZ) (by show D.length - (j + 1) < D.length - j; omega)
      · (repeat (first | exact Out.refl _ _ | exact Out.mix | (apply Out.upd; (· exact rfl)) | (apply Out.updL; (· exact rfl)) | (apply Out.mixs; (· exact rfl))))
      · exact congrArg (Value.int .i64) (show (i : Int) + 1 = ((i + 1 : Nat) : Int) by omega)
  have hje : j = D.length := by omega
  subst hje
  have hpre := hI.pre
  rw [List.take_length] at hpre
  have hil : i = (noP D x.ring).length := by
    have := congrArg List.length hpre
    rw [List.length_take] at this
    omega
  have hsl : Value.slice (subA (some ⟨ba, oa, none⟩) c i 4) (D.length - i) (c - i) = Value.slice (subA (some ⟨ba, oa, none⟩) c i 4) (D.length - i) (c - i) := rfl
  repeat'(first|refine kv' ?_|apply jJ|refine jE' ?_|refine jp' ?_|(apply jc;kernel_rfl)|refine kg' ?_|refine kG' ?_|refine kB' fun _=>?_|refine kA' fun _=>?_|refine kK' fun _=>?_|refine kU' ?_|(apply LR.ev; (· apply Ev.slice_lo; (· exact rfl); (· exact rfl); (· omega); (· omega)); (· exact rfl))|((first|refine kR' ?_ ?_|refine kQ' ?_ ?_);all_goals(intro hc;try simp only[hcs]at hc;try(exfalso;first|contradiction|omega))))
  refine LR.clearN (E := 44) (sz := 4) (zs := [.int .i64 0, .int .i64 0, .int .i64 0, .int .i64 0]) (n := D.length) (c := c) (j := i) (a := some ⟨ba, oa, none⟩) (xs := pcs D') rfl rfl rfl (Sel.tail _ (Sel.head _ _ _)) (by omega) ?_
  repeat'(first|refine kv' ?_|apply jJ|refine jE' ?_|refine jp' ?_|(apply jc;kernel_rfl)|refine kg' ?_|refine kG' ?_|refine kB' fun _=>?_|refine kA' fun _=>?_|refine kK' fun _=>?_|refine kU' ?_|(apply LR.ev; (· apply Ev.slice_hi; (· exact rfl); (· exact rfl); (· omega); (· omega)); (· exact rfl))|((first|refine kR' ?_ ?_|refine kQ' ?_ ?_);all_goals(intro hc;try simp only[hcs]at hc;try(exfalso;first|contradiction|omega))))
  (apply ret1; (· exact rfl); intro w' hS)
  have h2 := St.osl_cut (k := i) hS (Sel.tail _ (Sel.head _ _ _)) (by omega)
  have h3 : ((pcs D').take (i * 4) ++ (List.replicate (D.length - i) [Value.int .i64 0, .int .i64 0, .int .i64 0, .int .i64 0]).flatten).take (i * 4) = pcs (noP D x.ring) := by
    rw [pcs_take D' i (by omega), hpre, List.take_append_of_le_length (by rw [pcs_length]; omega), List.take_of_length_le (by rw [pcs_length]; omega)]
  rw [h3] at h2
  subst hF
  rw [← hil]
  refine ⟨?_, (h2.sub (L' := [pN (some ⟨ba, oa, none⟩) i c (noP D x.ring)]) subZ).step rfl⟩
  show Value.slice (subA (some ⟨ba, oa, none⟩) c 0 4) (i : Int).toNat c = _
  rw [subA0]
  rfl
end Go.Proofs.Ytgblmkpfkcibiaa

namespace Go.Proofs.Ytgblmkpfkcibiaa
open Go.Hb
attribute [local irreducible] LR CW At Ev thn blk finK noG again CallsTo DW QL dnext TW DP gpost
set_option maxRecDepth 100000

theorem lrn_yes {K : List Plc} {x : Plc} (h : takesP K x = true) : lrnL K x = noP K x.ring ++ [x] := by
  unfold lrnL noP
  rw [h]
  congr 1
theorem lrn_no {K : List Plc} {x : Plc} (h : takesP K x = false) : lrnL K x = K := by
  unfold lrnL
  rw [h, if_neg (by simp), List.append_nil, List.filter_eq_self]
  intro y _
  rfl
theorem lrnL_len (K : List Plc) (x : Plc) : (lrnL K x).length ≤ K.length + 1 := by
  cases h : takesP K x with
  | true => rw [lrn_yes h, List.length_append]; have := noP_len K x.ring; simp; omega
  | false => rw [lrn_no h]; omega
set_option maxHeartbeats 2000000 in
theorem m27 {N : Nat} (hN : SortTo N) (K : List Plc) (a : Option Addr) (c : Nat) (x : Plc) (w : World) (hk : Rd w a (pcs K)) (hz : a = none → c = 0) (hm : (K.length + 1) * 32 ≤ 140737488355328) (hKN : K.length + 1 ≤ N) (hxm : i64P x.members) :
    CallsTo Try.prog 27 [.slice a K.length c, x.val] w fun v w' => plR w w' v (lrnP K x) := by
  refine go_in (n := 66) (St.rd1 hk) Try.func27 rfl rfl ?_
  rw [plc_val]
  repeat'(first|(refine kB' fun bx => ?_)|refine kv' ?_|apply jJ|refine jE' ?_|refine jp' ?_|(apply jc;kernel_rfl)|refine kg' ?_|refine kG' ?_|refine kB' fun _=>?_|refine kA' fun _=>?_|refine kK' fun _=>?_|refine kU' ?_|(apply kq; (· exact rfl); (· intro w1 h1; first | exact CallsTo.q (show CallsTo Try.prog 60 [.agg [.int .i64 x.seq, .int .i64 x.rep].toArray] w1 _ from c81 x.seq x.rep w1) h1 | exact CallsTo.q (m61 x.members w1 hxm) h1))|((first|refine kR' ?_ ?_|refine kQ' ?_ ?_);all_goals(intro hc;try simp only[hcs]at hc;try(exfalso;first|contradiction|omega))))
  all_goals (
    apply CW.loop [5, 7, 36, 37, 38, 39, 40, 41, 42, 43, 44, 45, 46, 47, 48, 49, 50, 51, 52, 53] (fun i : Nat => i ≤ K.length) (fun i => [(5, .bool (mayP x && !anyR (K.take i) x)), (36, .int .i64 (i : Int))])
      (fun _ => St w NoF [.own bx (.cells [Value.int .i64 x.ring, .int .i64 x.seq, .int .i64 x.rep, .int .i64 x.members].toArray 44 (0, 0)), rdA a (pcs K)]) (fun i => K.length - i)
    · refine fun w' hw' => ⟨0, by omega, ⟨?_, rfl, trivial⟩, hw'⟩
      refine congrArg Value.bool ?_
      simp only [List.take_zero]
      rw [show anyR [] x = false from rfl]
      unfold mayP
      clear hw' hk
      first | (simp_all; done) | (simp_all; omega)
    intro i g hi
    by_cases hlt : i < K.length
    · obtain ⟨ba, oa, rfl⟩ := hk.form (fun e => by have h1 := congrArg List.length e; rw [pcs_length, List.length_nil] at h1; omega)
      obtain ⟨y, hy⟩ : ∃ y, K[i] = y := ⟨_, rfl⟩
      have hly : K[i]? = some y := by rw [List.getElem?_eq_getElem hlt, hy]
      have hat : anyR (K.take (i + 1)) x = (anyR (K.take i) x || (decide (y.ring = x.ring) && decide (0 ≤ ringsM y.seq y.rep x.seq x.rep))) := by
        unfold anyR
        rw [any_take K _ hlt, hy]
      generalize anyR (K.take i) x = tk at hat ⊢
      repeat'(first|(apply LR.ev; (· apply Ev.load_agg_at (cs := [Value.int .i64 y.ring, .int .i64 y.seq, .int .i64 y.rep, .int .i64 y.members]); (· exact rfl); (· exact rfl); (· intro w' hw'; refine pcs_cell (x := y) (hw'.rd_of memZ) hly ?_; (· simp; done))); (· exact rfl))|refine kv' ?_|apply jJ|refine jE' ?_|refine jp' ?_|(apply jc;kernel_rfl)|refine kg' ?_|refine kG' ?_|refine kB' fun _=>?_|refine kA' fun _=>?_|refine kK' fun _=>?_|refine kU' ?_|(apply idxX;(iterate 2 exact rfl);(iterate 2(first|omega|(dsimp only;omega)));exact rfl)|(apply kq; (· exact rfl); (· intro w1 h1; exact CallsTo.q (m32 y.seq y.rep x.seq x.rep w1) h1))|(apply addX;(iterate 2 exact rfl);(iterate 2(first|omega|(dsimp only;omega)));exact rfl)|((first|refine kR' ?_ ?_|refine kQ' ?_ ?_);all_goals(intro hc;try simp only[hcs]at hc;try(exfalso;first|contradiction|omega))))
      all_goals (
        refine At.again (i + 1) (by omega) ?_ ⟨?_, rfl, trivial⟩ (fun w' hw' => hw'.sub subZ) (by omega)
        · (repeat (first | exact Out.refl _ _ | exact Out.mix | (apply Out.upd; (· exact rfl)) | (apply Out.updL; (· exact rfl)) | (apply Out.mixs; (· exact rfl))))
        · rw [hat]
          first
            | (have h1 : 0 ≤ ringsM y.seq y.rep x.seq x.rep := by assumption
               rw [decide_eq_true h1, decide_eq_true (show y.ring = x.ring by assumption), Bool.and_self, Bool.or_true, Bool.not_true, Bool.and_false]
               rfl)
            | (rw [decide_eq_false (show ¬ y.ring = x.ring by assumption), Bool.false_and, Bool.or_false]; rfl)
            | (rw [decide_eq_false (show ¬ 0 ≤ ringsM y.seq y.rep x.seq x.rep by omega), Bool.and_false, Bool.or_false]; rfl))
    have hie : i = K.length := by omega
    subst hie
    rw [List.take_length]
    show CW _ _ _ _ (updL (mix _ _ _) [(5, Value.bool (takesP K x)), (36, _)]) _
    have hll := lrnL_len K x
    repeat'(first|refine kv' ?_|apply jJ|refine jE' ?_|refine jp' ?_|(apply jc;kernel_rfl)|refine kg' ?_|refine kG' ?_|refine kB' fun _=>?_|refine kA' fun _=>?_|refine kK' fun _=>?_|refine kU' ?_|((first|refine kR' ?_ ?_|refine kQ' ?_ ?_);all_goals(intro hc;try simp only[hcs]at hc;try(exfalso;first|contradiction|omega))))
    apply LR.call
    · exact rfl
    intro w1 h1
    refine (m62 K a c w1 (h1.rd_of memZ) hz (by omega)).mono ?_
    rintro v w2 ⟨a2, c2, rfl, hn⟩
    refine LR.back (h1.newSl hn) ?_
    clear hn h1
    cases htk : takesP K x with
    | false =>
      have hle := lrn_no htk
      unfold lrnP
      rw [hle]
      repeat'(first|refine kv' ?_|apply jJ|refine jE' ?_|refine jp' ?_|(apply jc;kernel_rfl)|refine kg' ?_|refine kG' ?_|refine kB' fun _=>?_|refine kA' fun _=>?_|refine kK' fun _=>?_|refine kU' ?_|((first|refine kR' ?_ ?_|refine kQ' ?_ ?_);all_goals(intro hc;try simp only[hcs]at hc;try(exfalso;first|contradiction|omega))))
      apply LR.call
      · exact rfl
      intro w1 h1
      refine CallsTo.mono (show CallsTo Try.prog 56 [.slice a2 K.length c2] w1 _ from hN a2 c2 K w1 (h1.holds (pN a2 K.length c2 K) memZ) (by omega)) ?_
      rintro v w2 ⟨rfl, st⟩
      refine LR.back (h1.did selZ rfl st (osl.dep _ _ _ _ _)) ?_
      clear st h1
      repeat'(first|refine kv' ?_|apply jJ|refine jE' ?_|refine jp' ?_|(apply jc;kernel_rfl)|refine kg' ?_|refine kG' ?_|refine kB' fun _=>?_|refine kA' fun _=>?_|refine kK' fun _=>?_|refine kU' ?_|((first|refine kR' ?_ ?_|refine kQ' ?_ ?_);all_goals(intro hc;try simp only[hcs]at hc;try(exfalso;first|contradiction|omega))))
      (apply ret1; (· exact rfl); intro w' hS)
      have h9 : pN a2 K.length c2 (isP K) = osl (.slice a2 (isP K).length c2) 44 4 (isP K).length (pcs (isP K)) := by rw [isP_len]
      rw [h9] at hS
      refine ⟨a2, c2, ?_, hS.toNew memZ⟩
      rw [isP_len]
      rfl
    | true =>
      have hle := lrn_yes htk
      unfold lrnP
      rw [hle] at hll ⊢
      rw [List.length_append] at hll
      have hnl := noP_len K x.ring
      repeat'(first|(apply LR.ev (v := Value.func (.func 64) #[] #[.pointer (some ⟨bx, 0, none⟩)]); (· exact Ev.makeFunc (xs := []) (ys := [.tmp 3])); (· exact rfl))|refine kv' ?_|apply jJ|refine jE' ?_|refine jp' ?_|(apply jc;kernel_rfl)|refine kg' ?_|refine kG' ?_|refine kB' fun _=>?_|refine kA' fun _=>?_|refine kK' fun _=>?_|refine kU' ?_|((first|refine kR' ?_ ?_|refine kQ' ?_ ?_);all_goals(intro hc;try simp only[hcs]at hc;try(exfalso;first|contradiction|omega))))
      apply LR.call
      · exact rfl
      intro w1 h1
      have hap := fun z => St.apart (x := pN a2 K.length c2 K) (y := .own bx (.cells [Value.int .i64 x.ring, .int .i64 x.seq, .int .i64 x.rep, .int .i64 x.members].toArray 44 (0, 0))) (h1.sub (L' := [pN a2 K.length c2 K, .own bx (.cells [Value.int .i64 x.ring, .int .i64 x.seq, .int .i64 x.rep, .int .i64 x.members].toArray 44 (0, 0))]) subZ) memZ rfl z
      refine CallsTo.mono (show CallsTo Try.prog 63 [.slice a2 K.length c2, .func (.func 64) #[] #[.pointer (some ⟨bx, 0, none⟩)]] w1 _ from m63 a2 c2 K x bx w1 (h1.holds (pN a2 K.length c2 K) memZ) (h1.rd_of_blk memZ) (fun z hz hf => by
        obtain ⟨_, ad, e, hz'⟩ := hz
        cases e
        exact hap z hf hz') (by omega)) ?_
      rintro v w2 ⟨rfl, st⟩
      refine LR.back (h1.did selZ rfl st (osl.dep _ _ _ _ _)) ?_
      clear st h1 hap
      generalize noP K x.ring = O at hll hnl ⊢
      repeat'(first|(apply Go.Hb.kK;(iterate 4 exact rfl);intro bs)|refine kv' ?_|apply jJ|refine jE' ?_|refine jp' ?_|(apply jc;kernel_rfl)|refine kg' ?_|refine kG' ?_|refine kB' fun _=>?_|refine kA' fun _=>?_|refine kK' fun _=>?_|refine kU' ?_|(apply LR.append (xs := pcs O) (news := x.cells) (m := 1); (· exact rfl); (· exact rfl); (· intro a' c'; (repeat (first | exact sH _ _ _ | apply sT))); (· exact fun w' hw' => hw'.rd_of_blk (mH _ _)); (· exact fun hx => by cases hx); (· exact rfl); (· exact rfl); (· omega); (· unfold maxLen; omega); (· exact rfl); (intro a3 c3))|((first|refine kR' ?_ ?_|refine kQ' ?_ ?_);all_goals(intro hc;try simp only[hcs]at hc;try(exfalso;first|contradiction|omega))))
      apply LR.call
      · exact rfl
      intro w1 h1
      have hsn : osl (.slice a3 (O.length + 1) c3) 44 4 (O.length + 1) (pcs O ++ x.cells) = pN a3 (O ++ [x]).length c3 (O ++ [x]) := pN_snoc.symm
      rw [hsn] at h1
      have hxl : (O ++ [x]).length = O.length + 1 := by simp
      rw [← hxl]
      refine CallsTo.mono (show CallsTo Try.prog 56 [.slice a3 (O ++ [x]).length c3] w1 _ from hN a3 c3 (O ++ [x]) w1 (h1.holds (pN a3 (O ++ [x]).length c3 (O ++ [x])) memZ) (by omega)) ?_
      rintro v w2 ⟨rfl, st⟩
      refine LR.back (h1.did selZ rfl st (osl.dep _ _ _ _ _)) ?_
      clear st h1
      repeat'(first|refine kv' ?_|apply jJ|refine jE' ?_|refine jp' ?_|(apply jc;kernel_rfl)|refine kg' ?_|refine kG' ?_|refine kB' fun _=>?_|refine kA' fun _=>?_|refine kK' fun _=>?_|refine kU' ?_|((first|refine kR' ?_ ?_|refine kQ' ?_ ?_);all_goals(intro hc;try simp only[hcs]at hc;try(exfalso;first|contradiction|omega))))
      (apply ret1; (· exact rfl); intro w' hS)
      have h9 : pN a3 (O ++ [x]).length c3 (isP (O ++ [x])) = osl (.slice a3 (isP (O ++ [x])).length c3) 44 4 (isP (O ++ [x])).length (pcs (isP (O ++ [x]))) := by rw [isP_len]
      rw [h9] at hS
      refine ⟨a3, c3, ?_, hS.toNew memZ⟩
      rw [isP_len]
      rfl)
end Go.Proofs.Ytgblmkpfkcibiaa

namespace Go.Proofs.Ytgblmkpfkcibiaa
open Go.Hb
attribute [local irreducible] LR CW At Ev thn blk finK noG again CallsTo DW QL dnext TW DP gpost
set_option maxRecDepth 100000

instance : DecidableEq Plc := fun a b =>
  if h : a.ring = b.ring ∧ a.seq = b.seq ∧ a.rep = b.rep ∧ a.members = b.members then isTrue (by cases a; cases b; simp_all)
  else isFalse (fun e => h (by subst e; exact ⟨rfl, rfl, rfl, rfl⟩))
theorem plc_eq (a b : Plc) : decide ([a.ring, a.seq, a.rep, a.members] = [b.ring, b.seq, b.rep, b.members]) = decide (a = b) := by
  rw [decide_eq_decide]
  cases a; cases b; simp
set_option maxHeartbeats 1000000 in
theorem m25 (a b : Option Addr) (ca cb : Nat) (la lb : List Plc) (w : World) (ha : Rd w a (pcs la)) (hb : Rd w b (pcs lb)) (hm : la.length ≤ 17592186043904) :
    CallsTo Try.prog 25 [.slice a la.length ca, .slice b lb.length cb] w fun v w' => v = .bool (decide (la = lb)) ∧ Grew w w' := by
  refine go_in (n := 26) (St.rd2 ha hb) Try.func25 rfl rfl ?_
  by_cases hl : la.length = lb.length
  rotate_left
  · repeat'(first|refine kv' ?_|apply jJ|refine jE' ?_|refine jp' ?_|(apply jc;kernel_rfl)|refine kg' ?_|refine kG' ?_|refine kB' fun _=>?_|refine kA' fun _=>?_|refine kK' fun _=>?_|refine kU' ?_|((first|refine kR' ?_ ?_|refine kQ' ?_ ?_);all_goals(intro hc;try simp only[hcs]at hc;try(exfalso;first|contradiction|omega))))
    (apply ret1; (· exact rfl); intro w' hS)
    refine ⟨congrArg Value.bool ?_, hS.toKeep⟩
    have : la ≠ lb := fun e => hl (by rw [e])
    simp [this]
  repeat'(first|refine kv' ?_|apply jJ|refine jE' ?_|refine jp' ?_|(apply jc;kernel_rfl)|refine kg' ?_|refine kG' ?_|refine kB' fun _=>?_|refine kA' fun _=>?_|refine kK' fun _=>?_|refine kU' ?_|((first|refine kR' ?_ ?_|refine kQ' ?_ ?_);all_goals(intro hc;try simp only[hcs]at hc;try(exfalso;first|contradiction|omega))))
  apply CW.loop [4, 5, 11, 12, 13, 14, 15, 16, 17, 18, 19, 20, 21, 22, 23, 24, 25] (fun i : Nat => i ≤ la.length ∧ la.take i = lb.take i) (fun i : Nat => [(5, Value.int .i64 i)]) (fun i => St w NoF [rdA a (pcs la), rdA b (pcs lb)]) (fun i => la.length - i)
  · exact fun w' hw' => ⟨0, ⟨by omega, by simp⟩, ⟨rfl, trivial⟩, hw'⟩
  intro i g ⟨hi, heq⟩
  by_cases hlt : i < la.length
  · obtain ⟨ba, oa, rfl⟩ := ha.form (fun e => by have h1 := congrArg List.length e; rw [pcs_length, List.length_nil] at h1; omega)
    obtain ⟨bb, ob, rfl⟩ := hb.form (fun e => by have h1 := congrArg List.length e; rw [pcs_length, List.length_nil] at h1; omega)
    have hlb : i < lb.length := by omega
    obtain ⟨x, hx⟩ : ∃ x, la[i] = x := ⟨_, rfl⟩
    obtain ⟨y, hy⟩ : ∃ y, lb[i] = y := ⟨_, rfl⟩
    have hlx : la[i]? = some x := by rw [List.getElem?_eq_getElem hlt, hx]
    have hly : lb[i]? = some y := by rw [List.getElem?_eq_getElem hlb, hy]
    have hpe := plc_eq x y
    repeat'(first|(apply LR.ev; (· apply Ev.load_agg_at (cs := [Value.int .i64 x.ring, .int .i64 x.seq, .int .i64 x.rep, .int .i64 x.members]); (· exact rfl); (· exact rfl); (· intro w' hw'; refine pcs_cell (x := x) (hw'.rd_of (mH _ _)) hlx ?_; (· simp; done))); (· exact rfl))|(apply LR.ev; (· apply Ev.load_agg_at (cs := [Value.int .i64 y.ring, .int .i64 y.seq, .int .i64 y.rep, .int .i64 y.members]); (· exact rfl); (· exact rfl); (· intro w' hw'; refine pcs_cell (x := y) (hw'.rd_of (mT _ (mH _ _))) hly ?_; (· simp; done))); (· exact rfl))|refine kv' ?_|apply jJ|refine jE' ?_|refine jp' ?_|(apply jc;kernel_rfl)|refine kg' ?_|refine kG' ?_|refine kB' fun _=>?_|refine kA' fun _=>?_|refine kK' fun _=>?_|refine kU' ?_|(apply idxX;(iterate 2 exact rfl);(iterate 2(first|omega|(dsimp only;omega)));exact rfl)|(apply addX;(iterate 2 exact rfl);(iterate 2(first|omega|(dsimp only;omega)));exact rfl)|((first|refine kR' ?_ ?_|refine kQ' ?_ ?_);all_goals(intro hc;try simp only[hcs]at hc;try(exfalso;first|contradiction|omega))))
    · (apply ret1; (· exact rfl); intro w' hS)
      refine ⟨congrArg Value.bool ?_, hS.toKeep⟩
      have : la ≠ lb := fun e => by
        subst e
        rw [hlx] at hly
        cases hly
        simp_all
      simp [this]
    · refine At.again (i + 1) ⟨by omega, ?_⟩ ?_ ⟨rfl, trivial⟩ (fun w' hw' => hw') (by omega)
      · have hxy : x = y := by cases x; cases y; simp_all
        rw [List.take_add_one, List.take_add_one, hlx, hly, heq, hxy]
      · (repeat (first | exact Out.refl _ _ | exact Out.mix | (apply Out.upd; (· exact rfl)) | (apply Out.updL; (· exact rfl)) | (apply Out.mixs; (· exact rfl))))
  · have hie : i = la.length := by omega
    subst hie
    repeat'(first|refine kv' ?_|apply jJ|refine jE' ?_|refine jp' ?_|(apply jc;kernel_rfl)|refine kg' ?_|refine kG' ?_|refine kB' fun _=>?_|refine kA' fun _=>?_|refine kK' fun _=>?_|refine kU' ?_|((first|refine kR' ?_ ?_|refine kQ' ?_ ?_);all_goals(intro hc;try simp only[hcs]at hc;try(exfalso;first|contradiction|omega))))
    (apply ret1; (· exact rfl); intro w' hS)
    refine ⟨congrArg Value.bool ?_, hS.toKeep⟩
    rw [List.take_length, hl, List.take_length] at heq
    simp [heq]
def threeP : Pln := ⟨[14, 56, 96], [⟨3, 0, 1⟩, ⟨5, 1, 2⟩]⟩
def threeA (b1 b2 : Nat) : PlA := ⟨some ⟨b1, 0, none⟩, 3, some ⟨b2, 0, none⟩, 2⟩
abbrev thr1 (b1 : Nat) : Asrt := .own b1 (.cells (iv [14, 56, 96]).toArray 3 (0, 0))
abbrev thr2 (b2 : Nat) : Asrt := .own b2 (.cells (gv [⟨3, 0, 1⟩, ⟨5, 1, 2⟩]).toArray 34 (0, 0))
theorem m33 (w : World) : CallsTo Try.prog 33 [] w fun v w' => ∃ b1 b2, v = threeP.val (threeA b1 b2) ∧ New1 (both (thr1 b1) (thr2 b2)) w w' := by
  refine go_in (n := 6) (St.refl _ NoF) Try.func33 rfl rfl ?_
  repeat'(first|(refine kK' (T := 22) fun b1 => ?_)|(refine kK' (T := 23) fun b2 => ?_)|refine kv' ?_|apply jJ|refine jE' ?_|refine jp' ?_|(apply jc;kernel_rfl)|refine kg' ?_|refine kG' ?_|refine kB' fun _=>?_|refine kA' fun _=>?_|refine kK' fun _=>?_|refine kU' ?_|((first|refine kR' ?_ ?_|refine kQ' ?_ ?_);all_goals(intro hc;try simp only[hcs]at hc;try(exfalso;first|contradiction|omega))))
  (apply ret1c; (· exact rfl); (· exact inferInstance); (· exact rfl); (· (repeat (first | exact List.Mem.head _ | apply List.Mem.tail))); (· exact rfl); intro w' hS)
  refine ⟨b1, b2, rfl, ?_⟩
  have h1 : St w NoF [thr1 b1, thr2 b2] w' := (hS.sub (L' := [thr2 b2, thr1 b1]) subZ).swap
  exact (h1.join rfl rfl).new1 rfl
def plcA (ring members : Int) : Plc := ⟨ring, 1 + ring, 1, members⟩
theorem m34 (ring members : Int) (w : World) (h : -1000 ≤ ring ∧ ring ≤ 1000) : CallsTo Try.prog 34 [.int .i64 ring, .int .i64 members] w fun v w' => v = (plcA ring members).val ∧ Grew w w' := by
  refine go_in (n := 11) (St.refl _ NoF) Try.func34 rfl rfl ?_
  repeat'(first|refine kv' ?_|apply jJ|refine jE' ?_|refine jp' ?_|(apply jc;kernel_rfl)|refine kg' ?_|refine kG' ?_|refine kB' fun _=>?_|refine kA' fun _=>?_|refine kK' fun _=>?_|refine kU' ?_|(apply addX;(iterate 2 exact rfl);(iterate 2(first|omega|(dsimp only;omega)));exact rfl)|((first|refine kR' ?_ ?_|refine kQ' ?_ ?_);all_goals(intro hc;try simp only[hcs]at hc;try(exfalso;first|contradiction|omega))))
  (apply ret1c; (· exact rfl); (· exact inferInstance); (· exact rfl); (· (repeat (first | exact List.Mem.head _ | apply List.Mem.tail))); (· exact rfl); intro w' hS)
  exact ⟨rfl, hS.toKeep⟩
theorem own_rdM {b : Nat} {cs : List Value} {E : Nat} {w : World} (h : (Asrt.own b (.cells cs.toArray E (0, 0))).holds w) : Rd w (some ⟨b, 0, none⟩) cs := fun j v hj => ⟨_, rfl, by rw [addr_add, cell_own h]; simpa using hj⟩
theorem threeI : PlI threeP := ⟨by decide, by decide, by decide⟩
theorem thR {w : World} {b1 b2 : Nat} (h : (both (thr1 b1) (thr2 b2)).holds w) : PlR w threeP (threeA b1 b2) := ⟨own_rdM h.1, own_rdM h.2.1⟩
theorem th_dep {b1 b2 : Nat} : (both (thr1 b1) (thr2 b2)).dep := both_dep (Asrt.dep_own _ _) (Asrt.dep_own _ _)
section
variable {P : Program} {C : World → Prop} {f : Frm} {T T' E : TypeId} {x y : Operand} {sz by_ b o k c : Nat} {q : IntKind} {j : Int}
theorem Ev_hi [h : SliceOf P T E sz by_] (hx : f.ev x = .slice (some ⟨b, o, none⟩) k c) (hy : f.ev y = .int q j) (h0 : 0 ≤ j) (h1 : j ≤ c) : Ev P C f (.slice T x none (some y) none) T' (.slice (some ⟨b, o, none⟩) j.toNat c) := by
  have := Ev.slice_hi (C := C) (T := T) (T' := T') (h := h) hx hy h0 h1
  rwa [subA0] at this
theorem Ev_lo [h : SliceOf P T E sz by_] (hx : f.ev x = .slice (some ⟨b, o, none⟩) k c) (hy : f.ev y = .int q j) (h0 : 0 ≤ j) (h1 : j ≤ k) (h2 : ¬ c = j.toNat) : Ev P C f (.slice T x (some y) none none) T' (.slice (some ⟨b, o + j.toNat * sz, none⟩) (k - j.toNat) (c - j.toNat)) := by
  have := Ev.slice_lo (C := C) (T := T) (T' := T') (h := h) hx hy h0 h1
  unfold subA at this
  rw [if_neg h2] at this
  simpa [addr_add] using this
end
def knownW : List Plc := [plcA 0 14, plcA 1 24, plcA 2 96]
theorem w_chk : chkP threeP.R threeP.G = true := by decide +kernel
theorem w_far : farT threeP.R threeP.G 3 0 = some 1 := by decide +kernel
theorem w_sides : sidesT threeP.R threeP.G 3 = [0, 1] := by decide +kernel
theorem w_gws : gwsT threeP.R threeP.G 1 = [3, 5] := by decide +kernel
theorem w_view0 : viewP (threeP.R, threeP.G) 0 knownW = [plcA 0 14, plcA 1 24] := by decide +kernel
theorem w_view2 : viewP (threeP.R, threeP.G) 2 knownW = [plcA 2 96] := by decide +kernel
theorem w_lrn : lrnP [] (plcA 1 24) = [plcA 1 24] := by decide +kernel
theorem rd_from8 {w : World} {b : Nat} (h : Rd w (some ⟨b, 0, none⟩) (pcs knownW)) : Rd w (some ⟨b, 8, none⟩) (pcs [plcA 2 96]) := by
  intro j v hj
  have h2 := h.cell (j := 8 + j) (v := v) (by rw [show pcs knownW = pcs [plcA 0 14, plcA 1 24] ++ pcs [plcA 2 96] from rfl, List.getElem?_append_right (by show 8 ≤ 8 + j; omega), show 8 + j - (pcs [plcA 0 14, plcA 1 24]).length = j by show 8 + j - 8 = j; omega]; exact hj)
  exact ⟨_, rfl, by rw [addr_add]; rwa [Nat.zero_add] at h2⟩
set_option maxHeartbeats 4000000 in
theorem m22 (w : World) : CallsTo Try.prog 22 [] w fun v w' => v = .bool true ∧ Grew w w' := by
  refine go_in (n := 57) (St.refl _ NoF) Try.func22 rfl rfl ?_
  repeat'(first|(apply CW.reg_heldC)|(refine kK' (T := 37) fun bk => ?_)|refine kv' ?_|apply jJ|refine jE' ?_|refine jp' ?_|(apply jc;kernel_rfl)|refine kg' ?_|refine kG' ?_|refine kB' fun _=>?_|refine kA' fun _=>?_|refine kK' fun _=>?_|refine kU' ?_|(apply kq; (· exact rfl); (· intro w1 h1; first | (have hq := CallsTo.q (m13 threeP (threeA b1 b2) w1 (thR (h1.holds (both (thr1 b1) (thr2 b2)) memZ)) threeI) h1; rw [w_chk] at hq; exact hq) | (have hq := CallsTo.q (m15 threeP (threeA b1 b2) 3 0 w1 (thR (h1.holds (both (thr1 b1) (thr2 b2)) memZ)) threeI) h1; rw [w_far] at hq; exact hq) | exact CallsTo.q (m34 0 14 w1 (by decide)) h1 | exact CallsTo.q (m34 1 24 w1 (by decide)) h1 | exact CallsTo.q (m34 2 96 w1 (by decide)) h1 | exact CallsTo.q (show CallsTo Try.prog 17 [.slice a7 2 c7, .slice _ 2 2] w1 _ from t19 a7 _ c7 2 [0, 1] [0, 1] w1 (h1.rd_of_own memZ) (h1.rd_of_blk memZ) (by decide)) h1 | exact CallsTo.q (show CallsTo Try.prog 17 [.slice a8 2 c8, .slice _ 2 2] w1 _ from t19 a8 _ c8 2 [3, 5] [3, 5] w1 (h1.rd_of_own memZ) (h1.rd_of_blk memZ) (by decide)) h1 | exact CallsTo.q (show CallsTo Try.prog 25 [.slice a9 2 c9, .slice (some ⟨bk, 0, none⟩) 2 3] w1 _ from m25 a9 (some ⟨bk, 0, none⟩) c9 3 [plcA 0 14, plcA 1 24] [plcA 0 14, plcA 1 24] w1 (h1.rd_of_own memZ) (Rd.take 8 (h1.rd_of_blk (b := bk) (cs := pcs knownW) memZ)) (by decide)) h1 | exact CallsTo.q (show CallsTo Try.prog 25 [.slice a9 1 c9, .slice (some ⟨bk, 8, none⟩) 1 1] w1 _ from m25 a9 (some ⟨bk, 8, none⟩) c9 1 [plcA 2 96] [plcA 2 96] w1 (h1.rd_of_own memZ) (rd_from8 (h1.rd_of_blk (b := bk) (cs := pcs knownW) memZ)) (by decide)) h1))|(apply LR.call; (· exact rfl); (intro w1 h1; first | (refine CallsTo.mono (show CallsTo Try.prog 33 [] w1 _ from m33 w1) ?_; rintro v w2 ⟨b1, b2, rfl, hn⟩; refine LR.back (h1.got hn th_dep) ?_; clear hn h1) | (refine CallsTo.mono (show CallsTo Try.prog 18 [threeP.val (threeA b1 b2), .int .i64 3] w1 _ from m18 threeP (threeA b1 b2) 3 w1 (thR (h1.holds (both (thr1 b1) (thr2 b2)) memZ)) threeI) ?_; rintro v w2 ⟨a7, c7, rfl, hn⟩; rw [w_sides] at hn ⊢; refine LR.back (h1.newSl hn) ?_; clear hn h1) | (refine CallsTo.mono (show CallsTo Try.prog 20 [threeP.val (threeA b1 b2), .int .i64 1] w1 _ from m20 threeP (threeA b1 b2) 1 w1 (thR (h1.holds (both (thr1 b1) (thr2 b2)) memZ)) threeI) ?_; rintro v w2 ⟨a8, c8, rfl, hn⟩; rw [w_gws] at hn ⊢; refine LR.back (h1.newSl hn) ?_; clear hn h1) | (refine CallsTo.mono (show CallsTo Try.prog 24 [threeP.val (threeA b1 b2), .int .i64 0, .slice (some ⟨bk, 0, none⟩) 3 3] w1 _ from m24 threeP (threeA b1 b2) threeI 0 knownW (some ⟨bk, 0, none⟩) 3 w1 (thR (h1.holds (both (thr1 b1) (thr2 b2)) memZ)) (h1.rd_of_blk memZ) (by decide)) ?_; rintro v w2 ⟨a9, c9, rfl, hn⟩; rw [w_view0] at hn ⊢; refine LR.back (h1.newSl hn) ?_; clear hn h1) | (refine CallsTo.mono (show CallsTo Try.prog 24 [threeP.val (threeA b1 b2), .int .i64 2, .slice (some ⟨bk, 0, none⟩) 3 3] w1 _ from m24 threeP (threeA b1 b2) threeI 2 knownW (some ⟨bk, 0, none⟩) 3 w1 (thR (h1.holds (both (thr1 b1) (thr2 b2)) memZ)) (h1.rd_of_blk memZ) (by decide)) ?_; rintro v w2 ⟨a9, c9, rfl, hn⟩; rw [w_view2] at hn ⊢; refine LR.back (h1.newSl hn) ?_; clear hn h1) | (refine CallsTo.mono (show CallsTo Try.prog 27 [.slice none 0 0, (plcA 1 24).val] w1 _ from m27 sort_few [] none 0 (plcA 1 24) w1 (Rd.nil _ _) (fun _ => rfl) (by decide) (by decide) (by decide)) ?_; rintro v w2 ⟨a10, c10, rfl, hn⟩; rw [w_lrn] at hn ⊢; refine LR.back (h1.newSl hn) ?_; clear hn h1)))|((first|refine kR' ?_ ?_|refine kQ' ?_ ?_);all_goals(intro hc;try simp only[hcs]at hc;try(exfalso;first|contradiction|omega))))
  all_goals (
    apply DW.loud 0
    · exact rfl
    · decide +kernel
    repeat'(first|refine kg' ?_|refine kG' ?_|apply kM|refine kv' ?_|refine kK' fun _=>?_|refine kU' ?_|refine kB' fun _=>?_|refine kA' fun _=>?_|(apply kq; (· exact rfl); (· intro w1 h1; first | (have hq := CallsTo.q (m13 threeP (threeA b1 b2) w1 (thR (h1.holds (both (thr1 b1) (thr2 b2)) memZ)) threeI) h1; rw [w_chk] at hq; exact hq) | (have hq := CallsTo.q (m15 threeP (threeA b1 b2) 3 0 w1 (thR (h1.holds (both (thr1 b1) (thr2 b2)) memZ)) threeI) h1; rw [w_far] at hq; exact hq) | exact CallsTo.q (m34 0 14 w1 (by decide)) h1 | exact CallsTo.q (m34 1 24 w1 (by decide)) h1 | exact CallsTo.q (m34 2 96 w1 (by decide)) h1 | exact CallsTo.q (show CallsTo Try.prog 17 [.slice a7 2 c7, .slice _ 2 2] w1 _ from t19 a7 _ c7 2 [0, 1] [0, 1] w1 (h1.rd_of_own memZ) (h1.rd_of_blk memZ) (by decide)) h1 | exact CallsTo.q (show CallsTo Try.prog 17 [.slice a8 2 c8, .slice _ 2 2] w1 _ from t19 a8 _ c8 2 [3, 5] [3, 5] w1 (h1.rd_of_own memZ) (h1.rd_of_blk memZ) (by decide)) h1 | exact CallsTo.q (show CallsTo Try.prog 25 [.slice a9 2 c9, .slice (some ⟨bk, 0, none⟩) 2 3] w1 _ from m25 a9 (some ⟨bk, 0, none⟩) c9 3 [plcA 0 14, plcA 1 24] [plcA 0 14, plcA 1 24] w1 (h1.rd_of_own memZ) (Rd.take 8 (h1.rd_of_blk (b := bk) (cs := pcs knownW) memZ)) (by decide)) h1 | exact CallsTo.q (show CallsTo Try.prog 25 [.slice a9 1 c9, .slice (some ⟨bk, 8, none⟩) 1 1] w1 _ from m25 a9 (some ⟨bk, 8, none⟩) c9 1 [plcA 2 96] [plcA 2 96] w1 (h1.rd_of_own memZ) (rd_from8 (h1.rd_of_blk (b := bk) (cs := pcs knownW) memZ)) (by decide)) h1))|(apply LR.call; (· exact rfl); (intro w1 h1; first | (refine CallsTo.mono (show CallsTo Try.prog 33 [] w1 _ from m33 w1) ?_; rintro v w2 ⟨b1, b2, rfl, hn⟩; refine LR.back (h1.got hn th_dep) ?_; clear hn h1) | (refine CallsTo.mono (show CallsTo Try.prog 18 [threeP.val (threeA b1 b2), .int .i64 3] w1 _ from m18 threeP (threeA b1 b2) 3 w1 (thR (h1.holds (both (thr1 b1) (thr2 b2)) memZ)) threeI) ?_; rintro v w2 ⟨a7, c7, rfl, hn⟩; rw [w_sides] at hn ⊢; refine LR.back (h1.newSl hn) ?_; clear hn h1) | (refine CallsTo.mono (show CallsTo Try.prog 20 [threeP.val (threeA b1 b2), .int .i64 1] w1 _ from m20 threeP (threeA b1 b2) 1 w1 (thR (h1.holds (both (thr1 b1) (thr2 b2)) memZ)) threeI) ?_; rintro v w2 ⟨a8, c8, rfl, hn⟩; rw [w_gws] at hn ⊢; refine LR.back (h1.newSl hn) ?_; clear hn h1) | (refine CallsTo.mono (show CallsTo Try.prog 24 [threeP.val (threeA b1 b2), .int .i64 0, .slice (some ⟨bk, 0, none⟩) 3 3] w1 _ from m24 threeP (threeA b1 b2) threeI 0 knownW (some ⟨bk, 0, none⟩) 3 w1 (thR (h1.holds (both (thr1 b1) (thr2 b2)) memZ)) (h1.rd_of_blk memZ) (by decide)) ?_; rintro v w2 ⟨a9, c9, rfl, hn⟩; rw [w_view0] at hn ⊢; refine LR.back (h1.newSl hn) ?_; clear hn h1) | (refine CallsTo.mono (show CallsTo Try.prog 24 [threeP.val (threeA b1 b2), .int .i64 2, .slice (some ⟨bk, 0, none⟩) 3 3] w1 _ from m24 threeP (threeA b1 b2) threeI 2 knownW (some ⟨bk, 0, none⟩) 3 w1 (thR (h1.holds (both (thr1 b1) (thr2 b2)) memZ)) (h1.rd_of_blk memZ) (by decide)) ?_; rintro v w2 ⟨a9, c9, rfl, hn⟩; rw [w_view2] at hn ⊢; refine LR.back (h1.newSl hn) ?_; clear hn h1) | (refine CallsTo.mono (show CallsTo Try.prog 27 [.slice none 0 0, (plcA 1 24).val] w1 _ from m27 sort_few [] none 0 (plcA 1 24) w1 (Rd.nil _ _) (fun _ => rfl) (by decide) (by decide) (by decide)) ?_; rintro v w2 ⟨a10, c10, rfl, hn⟩; rw [w_lrn] at hn ⊢; refine LR.back (h1.newSl hn) ?_; clear hn h1))))
    all_goals (refine At.stage_same (fun _ h => St.sub h subZ) ?_))
  all_goals (
    apply DW.loud 1
    · exact rfl
    · decide +kernel
    repeat'(first|refine kg' ?_|refine kG' ?_|apply kM|refine kv' ?_|refine kK' fun _=>?_|refine kU' ?_|refine kB' fun _=>?_|refine kA' fun _=>?_|(apply kq; (· exact rfl); (· intro w1 h1; first | (have hq := CallsTo.q (m13 threeP (threeA b1 b2) w1 (thR (h1.holds (both (thr1 b1) (thr2 b2)) memZ)) threeI) h1; rw [w_chk] at hq; exact hq) | (have hq := CallsTo.q (m15 threeP (threeA b1 b2) 3 0 w1 (thR (h1.holds (both (thr1 b1) (thr2 b2)) memZ)) threeI) h1; rw [w_far] at hq; exact hq) | exact CallsTo.q (m34 0 14 w1 (by decide)) h1 | exact CallsTo.q (m34 1 24 w1 (by decide)) h1 | exact CallsTo.q (m34 2 96 w1 (by decide)) h1 | exact CallsTo.q (show CallsTo Try.prog 17 [.slice a7 2 c7, .slice _ 2 2] w1 _ from t19 a7 _ c7 2 [0, 1] [0, 1] w1 (h1.rd_of_own memZ) (h1.rd_of_blk memZ) (by decide)) h1 | exact CallsTo.q (show CallsTo Try.prog 17 [.slice a8 2 c8, .slice _ 2 2] w1 _ from t19 a8 _ c8 2 [3, 5] [3, 5] w1 (h1.rd_of_own memZ) (h1.rd_of_blk memZ) (by decide)) h1 | exact CallsTo.q (show CallsTo Try.prog 25 [.slice a9 2 c9, .slice (some ⟨bk, 0, none⟩) 2 3] w1 _ from m25 a9 (some ⟨bk, 0, none⟩) c9 3 [plcA 0 14, plcA 1 24] [plcA 0 14, plcA 1 24] w1 (h1.rd_of_own memZ) (Rd.take 8 (h1.rd_of_blk (b := bk) (cs := pcs knownW) memZ)) (by decide)) h1 | exact CallsTo.q (show CallsTo Try.prog 25 [.slice a9 1 c9, .slice (some ⟨bk, 8, none⟩) 1 1] w1 _ from m25 a9 (some ⟨bk, 8, none⟩) c9 1 [plcA 2 96] [plcA 2 96] w1 (h1.rd_of_own memZ) (rd_from8 (h1.rd_of_blk (b := bk) (cs := pcs knownW) memZ)) (by decide)) h1))|(apply LR.call; (· exact rfl); (intro w1 h1; first | (refine CallsTo.mono (show CallsTo Try.prog 33 [] w1 _ from m33 w1) ?_; rintro v w2 ⟨b1, b2, rfl, hn⟩; refine LR.back (h1.got hn th_dep) ?_; clear hn h1) | (refine CallsTo.mono (show CallsTo Try.prog 18 [threeP.val (threeA b1 b2), .int .i64 3] w1 _ from m18 threeP (threeA b1 b2) 3 w1 (thR (h1.holds (both (thr1 b1) (thr2 b2)) memZ)) threeI) ?_; rintro v w2 ⟨a7, c7, rfl, hn⟩; rw [w_sides] at hn ⊢; refine LR.back (h1.newSl hn) ?_; clear hn h1) | (refine CallsTo.mono (show CallsTo Try.prog 20 [threeP.val (threeA b1 b2), .int .i64 1] w1 _ from m20 threeP (threeA b1 b2) 1 w1 (thR (h1.holds (both (thr1 b1) (thr2 b2)) memZ)) threeI) ?_; rintro v w2 ⟨a8, c8, rfl, hn⟩; rw [w_gws] at hn ⊢; refine LR.back (h1.newSl hn) ?_; clear hn h1) | (refine CallsTo.mono (show CallsTo Try.prog 24 [threeP.val (threeA b1 b2), .int .i64 0, .slice (some ⟨bk, 0, none⟩) 3 3] w1 _ from m24 threeP (threeA b1 b2) threeI 0 knownW (some ⟨bk, 0, none⟩) 3 w1 (thR (h1.holds (both (thr1 b1) (thr2 b2)) memZ)) (h1.rd_of_blk memZ) (by decide)) ?_; rintro v w2 ⟨a9, c9, rfl, hn⟩; rw [w_view0] at hn ⊢; refine LR.back (h1.newSl hn) ?_; clear hn h1) | (refine CallsTo.mono (show CallsTo Try.prog 24 [threeP.val (threeA b1 b2), .int .i64 2, .slice (some ⟨bk, 0, none⟩) 3 3] w1 _ from m24 threeP (threeA b1 b2) threeI 2 knownW (some ⟨bk, 0, none⟩) 3 w1 (thR (h1.holds (both (thr1 b1) (thr2 b2)) memZ)) (h1.rd_of_blk memZ) (by decide)) ?_; rintro v w2 ⟨a9, c9, rfl, hn⟩; rw [w_view2] at hn ⊢; refine LR.back (h1.newSl hn) ?_; clear hn h1) | (refine CallsTo.mono (show CallsTo Try.prog 27 [.slice none 0 0, (plcA 1 24).val] w1 _ from m27 sort_few [] none 0 (plcA 1 24) w1 (Rd.nil _ _) (fun _ => rfl) (by decide) (by decide) (by decide)) ?_; rintro v w2 ⟨a10, c10, rfl, hn⟩; rw [w_lrn] at hn ⊢; refine LR.back (h1.newSl hn) ?_; clear hn h1))))
    all_goals (refine At.stage_same (fun _ h => St.sub h subZ) ?_))
  all_goals (
    apply DW.quiet [2, 3]
    · decide +kernel
    · first | exact fun _ h => h | exact fun _ h => St.sub h subZ
    repeat'(first|(apply QL.evg; (iterate 3 exact rfl); (· apply Ev_hi; (· exact rfl); (· exact rfl); (· decide); (· decide)); (· exact rfl))|(apply QL.evg; (iterate 3 exact rfl); (· apply Ev_lo; (· exact rfl); (· exact rfl); (· decide); (· decide); (· decide)); (· exact rfl))|refine yv' ?_|refine uv' ?_|refine un' ?_|(refine us' ?_ ?_;all_goals(intro hc;try simp only[hcs]at hc;try(exfalso;first|contradiction|omega)))|apply QL.nil)
    all_goals (show DW _ _ _ _ _ _ _ _))
  apply DP.begin []
  refine DP.more (PI.lr 6 19 [(16, .bool true)] (fun b => .slice (some ⟨b, 0, none⟩) 2 2) (fun b => [.own b (.cells ([.int .i64 0, .int .i64 1] : List Value).toArray 3 (0, 0))]) rfl (fun b x hx => by simp only [List.mem_singleton] at hx; subst hx; rfl) ?_) ?_
  · intro h w2
    apply kg
    · exact rfl
    · exact rfl
    apply kK
    · exact rfl
    · exact rfl
    · exact rfl
    · exact rfl
    intro b
    apply kM
    exact At.made rfl
  refine DP.go 4 [6] [19] [[16]] rfl rfl rfl rfl (by decide +kernel) ⟨⟨rfl, trivial⟩, fun _ _ _ => trivial, trivial⟩ (fun A w' hA => St.sub hA (by simp only [List.cons_append, List.nil_append]; repeat (first | exact List.nil_sublist _ | exact List.Sublist.refl _ | apply List.Sublist.cons_cons | apply List.Sublist.cons))) ?_
  intro gg A LA hLA
  simp only [List.cons_append, List.nil_append] at hLA
  subst hLA
  repeat'(first|refine kg' ?_|refine kG' ?_|apply kM|refine kv' ?_|refine kK' fun _=>?_|refine kU' ?_|refine kB' fun _=>?_|refine kA' fun _=>?_|(apply kq; (· exact rfl); (· intro w1 h1; first | (have hq := CallsTo.q (m13 threeP (threeA b1 b2) w1 (thR (h1.holds (both (thr1 b1) (thr2 b2)) memZ)) threeI) h1; rw [w_chk] at hq; exact hq) | (have hq := CallsTo.q (m15 threeP (threeA b1 b2) 3 0 w1 (thR (h1.holds (both (thr1 b1) (thr2 b2)) memZ)) threeI) h1; rw [w_far] at hq; exact hq) | exact CallsTo.q (m34 0 14 w1 (by decide)) h1 | exact CallsTo.q (m34 1 24 w1 (by decide)) h1 | exact CallsTo.q (m34 2 96 w1 (by decide)) h1 | exact CallsTo.q (show CallsTo Try.prog 17 [.slice a7 2 c7, .slice _ 2 2] w1 _ from t19 a7 _ c7 2 [0, 1] [0, 1] w1 (h1.rd_of_own memZ) (h1.rd_of_blk memZ) (by decide)) h1 | exact CallsTo.q (show CallsTo Try.prog 17 [.slice a8 2 c8, .slice _ 2 2] w1 _ from t19 a8 _ c8 2 [3, 5] [3, 5] w1 (h1.rd_of_own memZ) (h1.rd_of_blk memZ) (by decide)) h1 | exact CallsTo.q (show CallsTo Try.prog 25 [.slice a9 2 c9, .slice (some ⟨bk, 0, none⟩) 2 3] w1 _ from m25 a9 (some ⟨bk, 0, none⟩) c9 3 [plcA 0 14, plcA 1 24] [plcA 0 14, plcA 1 24] w1 (h1.rd_of_own memZ) (Rd.take 8 (h1.rd_of_blk (b := bk) (cs := pcs knownW) memZ)) (by decide)) h1 | exact CallsTo.q (show CallsTo Try.prog 25 [.slice a9 1 c9, .slice (some ⟨bk, 8, none⟩) 1 1] w1 _ from m25 a9 (some ⟨bk, 8, none⟩) c9 1 [plcA 2 96] [plcA 2 96] w1 (h1.rd_of_own memZ) (rd_from8 (h1.rd_of_blk (b := bk) (cs := pcs knownW) memZ)) (by decide)) h1))|(apply LR.call; (· exact rfl); (intro w1 h1; first | (refine CallsTo.mono (show CallsTo Try.prog 33 [] w1 _ from m33 w1) ?_; rintro v w2 ⟨b1, b2, rfl, hn⟩; refine LR.back (h1.got hn th_dep) ?_; clear hn h1) | (refine CallsTo.mono (show CallsTo Try.prog 18 [threeP.val (threeA b1 b2), .int .i64 3] w1 _ from m18 threeP (threeA b1 b2) 3 w1 (thR (h1.holds (both (thr1 b1) (thr2 b2)) memZ)) threeI) ?_; rintro v w2 ⟨a7, c7, rfl, hn⟩; rw [w_sides] at hn ⊢; refine LR.back (h1.newSl hn) ?_; clear hn h1) | (refine CallsTo.mono (show CallsTo Try.prog 20 [threeP.val (threeA b1 b2), .int .i64 1] w1 _ from m20 threeP (threeA b1 b2) 1 w1 (thR (h1.holds (both (thr1 b1) (thr2 b2)) memZ)) threeI) ?_; rintro v w2 ⟨a8, c8, rfl, hn⟩; rw [w_gws] at hn ⊢; refine LR.back (h1.newSl hn) ?_; clear hn h1) | (refine CallsTo.mono (show CallsTo Try.prog 24 [threeP.val (threeA b1 b2), .int .i64 0, .slice (some ⟨bk, 0, none⟩) 3 3] w1 _ from m24 threeP (threeA b1 b2) threeI 0 knownW (some ⟨bk, 0, none⟩) 3 w1 (thR (h1.holds (both (thr1 b1) (thr2 b2)) memZ)) (h1.rd_of_blk memZ) (by decide)) ?_; rintro v w2 ⟨a9, c9, rfl, hn⟩; rw [w_view0] at hn ⊢; refine LR.back (h1.newSl hn) ?_; clear hn h1) | (refine CallsTo.mono (show CallsTo Try.prog 24 [threeP.val (threeA b1 b2), .int .i64 2, .slice (some ⟨bk, 0, none⟩) 3 3] w1 _ from m24 threeP (threeA b1 b2) threeI 2 knownW (some ⟨bk, 0, none⟩) 3 w1 (thR (h1.holds (both (thr1 b1) (thr2 b2)) memZ)) (h1.rd_of_blk memZ) (by decide)) ?_; rintro v w2 ⟨a9, c9, rfl, hn⟩; rw [w_view2] at hn ⊢; refine LR.back (h1.newSl hn) ?_; clear hn h1) | (refine CallsTo.mono (show CallsTo Try.prog 27 [.slice none 0 0, (plcA 1 24).val] w1 _ from m27 sort_few [] none 0 (plcA 1 24) w1 (Rd.nil _ _) (fun _ => rfl) (by decide) (by decide) (by decide)) ?_; rintro v w2 ⟨a10, c10, rfl, hn⟩; rw [w_lrn] at hn ⊢; refine LR.back (h1.newSl hn) ?_; clear hn h1))))
  apply At.pdone (ds := [19]) rfl
  · repeat (first | exact MixR.base _ | (apply MixR.upd; case hd => exact rfl))
  · repeat (first | exact Tl.nil | apply Tl.cons)
  · exact (fun A w' hA => St.sub hA (by simp only [List.cons_append, List.nil_append]; repeat (first | exact List.nil_sublist _ | exact List.Sublist.refl _ | apply List.Sublist.cons_cons | apply List.Sublist.cons)))
  refine DP.go 5 [6] [19] [[16]] rfl rfl rfl rfl (by decide +kernel) ⟨⟨rfl, trivial⟩, fun _ _ _ => trivial, trivial⟩ (fun A w' hA => St.sub hA (by simp only [List.cons_append, List.nil_append]; repeat (first | exact List.nil_sublist _ | exact List.Sublist.refl _ | apply List.Sublist.cons_cons | apply List.Sublist.cons))) ?_
  intro gg A LA hLA
  simp only [List.cons_append, List.nil_append] at hLA
  subst hLA
  repeat'(first|refine kg' ?_|refine kG' ?_|apply kM|refine kv' ?_|refine kK' fun _=>?_|refine kU' ?_|refine kB' fun _=>?_|refine kA' fun _=>?_|(apply kq; (· exact rfl); (· intro w1 h1; first | (have hq := CallsTo.q (m13 threeP (threeA b1 b2) w1 (thR (h1.holds (both (thr1 b1) (thr2 b2)) memZ)) threeI) h1; rw [w_chk] at hq; exact hq) | (have hq := CallsTo.q (m15 threeP (threeA b1 b2) 3 0 w1 (thR (h1.holds (both (thr1 b1) (thr2 b2)) memZ)) threeI) h1; rw [w_far] at hq; exact hq) | exact CallsTo.q (m34 0 14 w1 (by decide)) h1 | exact CallsTo.q (m34 1 24 w1 (by decide)) h1 | exact CallsTo.q (m34 2 96 w1 (by decide)) h1 | exact CallsTo.q (show CallsTo Try.prog 17 [.slice a7 2 c7, .slice _ 2 2] w1 _ from t19 a7 _ c7 2 [0, 1] [0, 1] w1 (h1.rd_of_own memZ) (h1.rd_of_blk memZ) (by decide)) h1 | exact CallsTo.q (show CallsTo Try.prog 17 [.slice a8 2 c8, .slice _ 2 2] w1 _ from t19 a8 _ c8 2 [3, 5] [3, 5] w1 (h1.rd_of_own memZ) (h1.rd_of_blk memZ) (by decide)) h1 | exact CallsTo.q (show CallsTo Try.prog 25 [.slice a9 2 c9, .slice (some ⟨bk, 0, none⟩) 2 3] w1 _ from m25 a9 (some ⟨bk, 0, none⟩) c9 3 [plcA 0 14, plcA 1 24] [plcA 0 14, plcA 1 24] w1 (h1.rd_of_own memZ) (Rd.take 8 (h1.rd_of_blk (b := bk) (cs := pcs knownW) memZ)) (by decide)) h1 | exact CallsTo.q (show CallsTo Try.prog 25 [.slice a9 1 c9, .slice (some ⟨bk, 8, none⟩) 1 1] w1 _ from m25 a9 (some ⟨bk, 8, none⟩) c9 1 [plcA 2 96] [plcA 2 96] w1 (h1.rd_of_own memZ) (rd_from8 (h1.rd_of_blk (b := bk) (cs := pcs knownW) memZ)) (by decide)) h1))|(apply LR.call; (· exact rfl); (intro w1 h1; first | (refine CallsTo.mono (show CallsTo Try.prog 33 [] w1 _ from m33 w1) ?_; rintro v w2 ⟨b1, b2, rfl, hn⟩; refine LR.back (h1.got hn th_dep) ?_; clear hn h1) | (refine CallsTo.mono (show CallsTo Try.prog 18 [threeP.val (threeA b1 b2), .int .i64 3] w1 _ from m18 threeP (threeA b1 b2) 3 w1 (thR (h1.holds (both (thr1 b1) (thr2 b2)) memZ)) threeI) ?_; rintro v w2 ⟨a7, c7, rfl, hn⟩; rw [w_sides] at hn ⊢; refine LR.back (h1.newSl hn) ?_; clear hn h1) | (refine CallsTo.mono (show CallsTo Try.prog 20 [threeP.val (threeA b1 b2), .int .i64 1] w1 _ from m20 threeP (threeA b1 b2) 1 w1 (thR (h1.holds (both (thr1 b1) (thr2 b2)) memZ)) threeI) ?_; rintro v w2 ⟨a8, c8, rfl, hn⟩; rw [w_gws] at hn ⊢; refine LR.back (h1.newSl hn) ?_; clear hn h1) | (refine CallsTo.mono (show CallsTo Try.prog 24 [threeP.val (threeA b1 b2), .int .i64 0, .slice (some ⟨bk, 0, none⟩) 3 3] w1 _ from m24 threeP (threeA b1 b2) threeI 0 knownW (some ⟨bk, 0, none⟩) 3 w1 (thR (h1.holds (both (thr1 b1) (thr2 b2)) memZ)) (h1.rd_of_blk memZ) (by decide)) ?_; rintro v w2 ⟨a9, c9, rfl, hn⟩; rw [w_view0] at hn ⊢; refine LR.back (h1.newSl hn) ?_; clear hn h1) | (refine CallsTo.mono (show CallsTo Try.prog 24 [threeP.val (threeA b1 b2), .int .i64 2, .slice (some ⟨bk, 0, none⟩) 3 3] w1 _ from m24 threeP (threeA b1 b2) threeI 2 knownW (some ⟨bk, 0, none⟩) 3 w1 (thR (h1.holds (both (thr1 b1) (thr2 b2)) memZ)) (h1.rd_of_blk memZ) (by decide)) ?_; rintro v w2 ⟨a9, c9, rfl, hn⟩; rw [w_view2] at hn ⊢; refine LR.back (h1.newSl hn) ?_; clear hn h1) | (refine CallsTo.mono (show CallsTo Try.prog 27 [.slice none 0 0, (plcA 1 24).val] w1 _ from m27 sort_few [] none 0 (plcA 1 24) w1 (Rd.nil _ _) (fun _ => rfl) (by decide) (by decide) (by decide)) ?_; rintro v w2 ⟨a10, c10, rfl, hn⟩; rw [w_lrn] at hn ⊢; refine LR.back (h1.newSl hn) ?_; clear hn h1))))
  apply At.pdone (ds := [19]) rfl
  · repeat (first | exact MixR.base _ | (apply MixR.upd; case hd => exact rfl))
  · repeat (first | exact Tl.nil | apply Tl.cons)
  · exact (fun A w' hA => St.sub hA (by simp only [List.cons_append, List.nil_append]; repeat (first | exact List.nil_sublist _ | exact List.Sublist.refl _ | apply List.Sublist.cons_cons | apply List.Sublist.cons)))
  refine DP.take 6 19 (fun b => .slice (some ⟨b, 0, none⟩) 2 2) (fun b => [.own b (.cells ([.int .i64 0, .int .i64 1] : List Value).toArray 3 (0, 0))]) [] [19] [[16]] rfl rfl rfl rfl rfl rfl rfl (by decide +kernel) ⟨⟨rfl, trivial⟩, fun _ _ _ => trivial, trivial⟩ (fun A w' hA => St.sub hA (by simp only [List.cons_append, List.nil_append]; repeat (first | exact List.nil_sublist _ | exact List.Sublist.refl _ | apply List.Sublist.cons_cons | apply List.Sublist.cons))) (fun bp19 => ?_)
  refine DP.nil ?_
  refine DW.castL (by simp only [List.cons_append, List.nil_append]; exact rfl) ?_
  all_goals (
    apply DW.loud 7
    · exact rfl
    · decide +kernel
    repeat'(first|refine kg' ?_|refine kG' ?_|apply kM|refine kv' ?_|refine kK' fun _=>?_|refine kU' ?_|refine kB' fun _=>?_|refine kA' fun _=>?_|(apply kq; (· exact rfl); (· intro w1 h1; first | (have hq := CallsTo.q (m13 threeP (threeA b1 b2) w1 (thR (h1.holds (both (thr1 b1) (thr2 b2)) memZ)) threeI) h1; rw [w_chk] at hq; exact hq) | (have hq := CallsTo.q (m15 threeP (threeA b1 b2) 3 0 w1 (thR (h1.holds (both (thr1 b1) (thr2 b2)) memZ)) threeI) h1; rw [w_far] at hq; exact hq) | exact CallsTo.q (m34 0 14 w1 (by decide)) h1 | exact CallsTo.q (m34 1 24 w1 (by decide)) h1 | exact CallsTo.q (m34 2 96 w1 (by decide)) h1 | exact CallsTo.q (show CallsTo Try.prog 17 [.slice a7 2 c7, .slice _ 2 2] w1 _ from t19 a7 _ c7 2 [0, 1] [0, 1] w1 (h1.rd_of_own memZ) (h1.rd_of_blk memZ) (by decide)) h1 | exact CallsTo.q (show CallsTo Try.prog 17 [.slice a8 2 c8, .slice _ 2 2] w1 _ from t19 a8 _ c8 2 [3, 5] [3, 5] w1 (h1.rd_of_own memZ) (h1.rd_of_blk memZ) (by decide)) h1 | exact CallsTo.q (show CallsTo Try.prog 25 [.slice a9 2 c9, .slice (some ⟨bk, 0, none⟩) 2 3] w1 _ from m25 a9 (some ⟨bk, 0, none⟩) c9 3 [plcA 0 14, plcA 1 24] [plcA 0 14, plcA 1 24] w1 (h1.rd_of_own memZ) (Rd.take 8 (h1.rd_of_blk (b := bk) (cs := pcs knownW) memZ)) (by decide)) h1 | exact CallsTo.q (show CallsTo Try.prog 25 [.slice a9 1 c9, .slice (some ⟨bk, 8, none⟩) 1 1] w1 _ from m25 a9 (some ⟨bk, 8, none⟩) c9 1 [plcA 2 96] [plcA 2 96] w1 (h1.rd_of_own memZ) (rd_from8 (h1.rd_of_blk (b := bk) (cs := pcs knownW) memZ)) (by decide)) h1))|(apply LR.call; (· exact rfl); (intro w1 h1; first | (refine CallsTo.mono (show CallsTo Try.prog 33 [] w1 _ from m33 w1) ?_; rintro v w2 ⟨b1, b2, rfl, hn⟩; refine LR.back (h1.got hn th_dep) ?_; clear hn h1) | (refine CallsTo.mono (show CallsTo Try.prog 18 [threeP.val (threeA b1 b2), .int .i64 3] w1 _ from m18 threeP (threeA b1 b2) 3 w1 (thR (h1.holds (both (thr1 b1) (thr2 b2)) memZ)) threeI) ?_; rintro v w2 ⟨a7, c7, rfl, hn⟩; rw [w_sides] at hn ⊢; refine LR.back (h1.newSl hn) ?_; clear hn h1) | (refine CallsTo.mono (show CallsTo Try.prog 20 [threeP.val (threeA b1 b2), .int .i64 1] w1 _ from m20 threeP (threeA b1 b2) 1 w1 (thR (h1.holds (both (thr1 b1) (thr2 b2)) memZ)) threeI) ?_; rintro v w2 ⟨a8, c8, rfl, hn⟩; rw [w_gws] at hn ⊢; refine LR.back (h1.newSl hn) ?_; clear hn h1) | (refine CallsTo.mono (show CallsTo Try.prog 24 [threeP.val (threeA b1 b2), .int .i64 0, .slice (some ⟨bk, 0, none⟩) 3 3] w1 _ from m24 threeP (threeA b1 b2) threeI 0 knownW (some ⟨bk, 0, none⟩) 3 w1 (thR (h1.holds (both (thr1 b1) (thr2 b2)) memZ)) (h1.rd_of_blk memZ) (by decide)) ?_; rintro v w2 ⟨a9, c9, rfl, hn⟩; rw [w_view0] at hn ⊢; refine LR.back (h1.newSl hn) ?_; clear hn h1) | (refine CallsTo.mono (show CallsTo Try.prog 24 [threeP.val (threeA b1 b2), .int .i64 2, .slice (some ⟨bk, 0, none⟩) 3 3] w1 _ from m24 threeP (threeA b1 b2) threeI 2 knownW (some ⟨bk, 0, none⟩) 3 w1 (thR (h1.holds (both (thr1 b1) (thr2 b2)) memZ)) (h1.rd_of_blk memZ) (by decide)) ?_; rintro v w2 ⟨a9, c9, rfl, hn⟩; rw [w_view2] at hn ⊢; refine LR.back (h1.newSl hn) ?_; clear hn h1) | (refine CallsTo.mono (show CallsTo Try.prog 27 [.slice none 0 0, (plcA 1 24).val] w1 _ from m27 sort_few [] none 0 (plcA 1 24) w1 (Rd.nil _ _) (fun _ => rfl) (by decide) (by decide) (by decide)) ?_; rintro v w2 ⟨a10, c10, rfl, hn⟩; rw [w_lrn] at hn ⊢; refine LR.back (h1.newSl hn) ?_; clear hn h1))))
    all_goals (refine At.stage_same (fun _ h => St.sub h subZ) ?_))
  all_goals (
    apply DW.quiet [8, 9]
    · decide +kernel
    · first | exact fun _ h => h | exact fun _ h => St.sub h subZ
    repeat'(first|(apply QL.evg; (iterate 3 exact rfl); (· apply Ev_hi; (· exact rfl); (· exact rfl); (· decide); (· decide)); (· exact rfl))|(apply QL.evg; (iterate 3 exact rfl); (· apply Ev_lo; (· exact rfl); (· exact rfl); (· decide); (· decide); (· decide)); (· exact rfl))|refine yv' ?_|refine uv' ?_|refine un' ?_|(refine us' ?_ ?_;all_goals(intro hc;try simp only[hcs]at hc;try(exfalso;first|contradiction|omega)))|apply QL.nil)
    all_goals (show DW _ _ _ _ _ _ _ _))
  apply DP.begin []
  refine DP.more (PI.lr 12 25 [(22, .bool true)] (fun b => .slice (some ⟨b, 0, none⟩) 2 2) (fun b => [.own b (.cells ([.int .i64 3, .int .i64 5] : List Value).toArray 3 (0, 0))]) rfl (fun b x hx => by simp only [List.mem_singleton] at hx; subst hx; rfl) ?_) ?_
  · intro h w2
    apply kg
    · exact rfl
    · exact rfl
    apply kK
    · exact rfl
    · exact rfl
    · exact rfl
    · exact rfl
    intro b
    apply kM
    exact At.made rfl
  refine DP.go 10 [12] [25] [[22]] rfl rfl rfl rfl (by decide +kernel) ⟨⟨rfl, trivial⟩, fun _ _ _ => trivial, trivial⟩ (fun A w' hA => St.sub hA (by simp only [List.cons_append, List.nil_append]; repeat (first | exact List.nil_sublist _ | exact List.Sublist.refl _ | apply List.Sublist.cons_cons | apply List.Sublist.cons))) ?_
  intro gg A LA hLA
  simp only [List.cons_append, List.nil_append] at hLA
  subst hLA
  repeat'(first|refine kg' ?_|refine kG' ?_|apply kM|refine kv' ?_|refine kK' fun _=>?_|refine kU' ?_|refine kB' fun _=>?_|refine kA' fun _=>?_|(apply kq; (· exact rfl); (· intro w1 h1; first | (have hq := CallsTo.q (m13 threeP (threeA b1 b2) w1 (thR (h1.holds (both (thr1 b1) (thr2 b2)) memZ)) threeI) h1; rw [w_chk] at hq; exact hq) | (have hq := CallsTo.q (m15 threeP (threeA b1 b2) 3 0 w1 (thR (h1.holds (both (thr1 b1) (thr2 b2)) memZ)) threeI) h1; rw [w_far] at hq; exact hq) | exact CallsTo.q (m34 0 14 w1 (by decide)) h1 | exact CallsTo.q (m34 1 24 w1 (by decide)) h1 | exact CallsTo.q (m34 2 96 w1 (by decide)) h1 | exact CallsTo.q (show CallsTo Try.prog 17 [.slice a7 2 c7, .slice _ 2 2] w1 _ from t19 a7 _ c7 2 [0, 1] [0, 1] w1 (h1.rd_of_own memZ) (h1.rd_of_blk memZ) (by decide)) h1 | exact CallsTo.q (show CallsTo Try.prog 17 [.slice a8 2 c8, .slice _ 2 2] w1 _ from t19 a8 _ c8 2 [3, 5] [3, 5] w1 (h1.rd_of_own memZ) (h1.rd_of_blk memZ) (by decide)) h1 | exact CallsTo.q (show CallsTo Try.prog 25 [.slice a9 2 c9, .slice (some ⟨bk, 0, none⟩) 2 3] w1 _ from m25 a9 (some ⟨bk, 0, none⟩) c9 3 [plcA 0 14, plcA 1 24] [plcA 0 14, plcA 1 24] w1 (h1.rd_of_own memZ) (Rd.take 8 (h1.rd_of_blk (b := bk) (cs := pcs knownW) memZ)) (by decide)) h1 | exact CallsTo.q (show CallsTo Try.prog 25 [.slice a9 1 c9, .slice (some ⟨bk, 8, none⟩) 1 1] w1 _ from m25 a9 (some ⟨bk, 8, none⟩) c9 1 [plcA 2 96] [plcA 2 96] w1 (h1.rd_of_own memZ) (rd_from8 (h1.rd_of_blk (b := bk) (cs := pcs knownW) memZ)) (by decide)) h1))|(apply LR.call; (· exact rfl); (intro w1 h1; first | (refine CallsTo.mono (show CallsTo Try.prog 33 [] w1 _ from m33 w1) ?_; rintro v w2 ⟨b1, b2, rfl, hn⟩; refine LR.back (h1.got hn th_dep) ?_; clear hn h1) | (refine CallsTo.mono (show CallsTo Try.prog 18 [threeP.val (threeA b1 b2), .int .i64 3] w1 _ from m18 threeP (threeA b1 b2) 3 w1 (thR (h1.holds (both (thr1 b1) (thr2 b2)) memZ)) threeI) ?_; rintro v w2 ⟨a7, c7, rfl, hn⟩; rw [w_sides] at hn ⊢; refine LR.back (h1.newSl hn) ?_; clear hn h1) | (refine CallsTo.mono (show CallsTo Try.prog 20 [threeP.val (threeA b1 b2), .int .i64 1] w1 _ from m20 threeP (threeA b1 b2) 1 w1 (thR (h1.holds (both (thr1 b1) (thr2 b2)) memZ)) threeI) ?_; rintro v w2 ⟨a8, c8, rfl, hn⟩; rw [w_gws] at hn ⊢; refine LR.back (h1.newSl hn) ?_; clear hn h1) | (refine CallsTo.mono (show CallsTo Try.prog 24 [threeP.val (threeA b1 b2), .int .i64 0, .slice (some ⟨bk, 0, none⟩) 3 3] w1 _ from m24 threeP (threeA b1 b2) threeI 0 knownW (some ⟨bk, 0, none⟩) 3 w1 (thR (h1.holds (both (thr1 b1) (thr2 b2)) memZ)) (h1.rd_of_blk memZ) (by decide)) ?_; rintro v w2 ⟨a9, c9, rfl, hn⟩; rw [w_view0] at hn ⊢; refine LR.back (h1.newSl hn) ?_; clear hn h1) | (refine CallsTo.mono (show CallsTo Try.prog 24 [threeP.val (threeA b1 b2), .int .i64 2, .slice (some ⟨bk, 0, none⟩) 3 3] w1 _ from m24 threeP (threeA b1 b2) threeI 2 knownW (some ⟨bk, 0, none⟩) 3 w1 (thR (h1.holds (both (thr1 b1) (thr2 b2)) memZ)) (h1.rd_of_blk memZ) (by decide)) ?_; rintro v w2 ⟨a9, c9, rfl, hn⟩; rw [w_view2] at hn ⊢; refine LR.back (h1.newSl hn) ?_; clear hn h1) | (refine CallsTo.mono (show CallsTo Try.prog 27 [.slice none 0 0, (plcA 1 24).val] w1 _ from m27 sort_few [] none 0 (plcA 1 24) w1 (Rd.nil _ _) (fun _ => rfl) (by decide) (by decide) (by decide)) ?_; rintro v w2 ⟨a10, c10, rfl, hn⟩; rw [w_lrn] at hn ⊢; refine LR.back (h1.newSl hn) ?_; clear hn h1))))
  apply At.pdone (ds := [25]) rfl
  · repeat (first | exact MixR.base _ | (apply MixR.upd; case hd => exact rfl))
  · repeat (first | exact Tl.nil | apply Tl.cons)
  · exact (fun A w' hA => St.sub hA (by simp only [List.cons_append, List.nil_append]; repeat (first | exact List.nil_sublist _ | exact List.Sublist.refl _ | apply List.Sublist.cons_cons | apply List.Sublist.cons)))
  refine DP.go 11 [12] [25] [[22]] rfl rfl rfl rfl (by decide +kernel) ⟨⟨rfl, trivial⟩, fun _ _ _ => trivial, trivial⟩ (fun A w' hA => St.sub hA (by simp only [List.cons_append, List.nil_append]; repeat (first | exact List.nil_sublist _ | exact List.Sublist.refl _ | apply List.Sublist.cons_cons | apply List.Sublist.cons))) ?_
  intro gg A LA hLA
  simp only [List.cons_append, List.nil_append] at hLA
  subst hLA
  repeat'(first|refine kg' ?_|refine kG' ?_|apply kM|refine kv' ?_|refine kK' fun _=>?_|refine kU' ?_|refine kB' fun _=>?_|refine kA' fun _=>?_|(apply kq; (· exact rfl); (· intro w1 h1; first | (have hq := CallsTo.q (m13 threeP (threeA b1 b2) w1 (thR (h1.holds (both (thr1 b1) (thr2 b2)) memZ)) threeI) h1; rw [w_chk] at hq; exact hq) | (have hq := CallsTo.q (m15 threeP (threeA b1 b2) 3 0 w1 (thR (h1.holds (both (thr1 b1) (thr2 b2)) memZ)) threeI) h1; rw [w_far] at hq; exact hq) | exact CallsTo.q (m34 0 14 w1 (by decide)) h1 | exact CallsTo.q (m34 1 24 w1 (by decide)) h1 | exact CallsTo.q (m34 2 96 w1 (by decide)) h1 | exact CallsTo.q (show CallsTo Try.prog 17 [.slice a7 2 c7, .slice _ 2 2] w1 _ from t19 a7 _ c7 2 [0, 1] [0, 1] w1 (h1.rd_of_own memZ) (h1.rd_of_blk memZ) (by decide)) h1 | exact CallsTo.q (show CallsTo Try.prog 17 [.slice a8 2 c8, .slice _ 2 2] w1 _ from t19 a8 _ c8 2 [3, 5] [3, 5] w1 (h1.rd_of_own memZ) (h1.rd_of_blk memZ) (by decide)) h1 | exact CallsTo.q (show CallsTo Try.prog 25 [.slice a9 2 c9, .slice (some ⟨bk, 0, none⟩) 2 3] w1 _ from m25 a9 (some ⟨bk, 0, none⟩) c9 3 [plcA 0 14, plcA 1 24] [plcA 0 14, plcA 1 24] w1 (h1.rd_of_own memZ) (Rd.take 8 (h1.rd_of_blk (b := bk) (cs := pcs knownW) memZ)) (by decide)) h1 | exact CallsTo.q (show CallsTo Try.prog 25 [.slice a9 1 c9, .slice (some ⟨bk, 8, none⟩) 1 1] w1 _ from m25 a9 (some ⟨bk, 8, none⟩) c9 1 [plcA 2 96] [plcA 2 96] w1 (h1.rd_of_own memZ) (rd_from8 (h1.rd_of_blk (b := bk) (cs := pcs knownW) memZ)) (by decide)) h1))|(apply LR.call; (· exact rfl); (intro w1 h1; first | (refine CallsTo.mono (show CallsTo Try.prog 33 [] w1 _ from m33 w1) ?_; rintro v w2 ⟨b1, b2, rfl, hn⟩; refine LR.back (h1.got hn th_dep) ?_; clear hn h1) | (refine CallsTo.mono (show CallsTo Try.prog 18 [threeP.val (threeA b1 b2), .int .i64 3] w1 _ from m18 threeP (threeA b1 b2) 3 w1 (thR (h1.holds (both (thr1 b1) (thr2 b2)) memZ)) threeI) ?_; rintro v w2 ⟨a7, c7, rfl, hn⟩; rw [w_sides] at hn ⊢; refine LR.back (h1.newSl hn) ?_; clear hn h1) | (refine CallsTo.mono (show CallsTo Try.prog 20 [threeP.val (threeA b1 b2), .int .i64 1] w1 _ from m20 threeP (threeA b1 b2) 1 w1 (thR (h1.holds (both (thr1 b1) (thr2 b2)) memZ)) threeI) ?_; rintro v w2 ⟨a8, c8, rfl, hn⟩; rw [w_gws] at hn ⊢; refine LR.back (h1.newSl hn) ?_; clear hn h1) | (refine CallsTo.mono (show CallsTo Try.prog 24 [threeP.val (threeA b1 b2), .int .i64 0, .slice (some ⟨bk, 0, none⟩) 3 3] w1 _ from m24 threeP (threeA b1 b2) threeI 0 knownW (some ⟨bk, 0, none⟩) 3 w1 (thR (h1.holds (both (thr1 b1) (thr2 b2)) memZ)) (h1.rd_of_blk memZ) (by decide)) ?_; rintro v w2 ⟨a9, c9, rfl, hn⟩; rw [w_view0] at hn ⊢; refine LR.back (h1.newSl hn) ?_; clear hn h1) | (refine CallsTo.mono (show CallsTo Try.prog 24 [threeP.val (threeA b1 b2), .int .i64 2, .slice (some ⟨bk, 0, none⟩) 3 3] w1 _ from m24 threeP (threeA b1 b2) threeI 2 knownW (some ⟨bk, 0, none⟩) 3 w1 (thR (h1.holds (both (thr1 b1) (thr2 b2)) memZ)) (h1.rd_of_blk memZ) (by decide)) ?_; rintro v w2 ⟨a9, c9, rfl, hn⟩; rw [w_view2] at hn ⊢; refine LR.back (h1.newSl hn) ?_; clear hn h1) | (refine CallsTo.mono (show CallsTo Try.prog 27 [.slice none 0 0, (plcA 1 24).val] w1 _ from m27 sort_few [] none 0 (plcA 1 24) w1 (Rd.nil _ _) (fun _ => rfl) (by decide) (by decide) (by decide)) ?_; rintro v w2 ⟨a10, c10, rfl, hn⟩; rw [w_lrn] at hn ⊢; refine LR.back (h1.newSl hn) ?_; clear hn h1))))
  apply At.pdone (ds := [25]) rfl
  · repeat (first | exact MixR.base _ | (apply MixR.upd; case hd => exact rfl))
  · repeat (first | exact Tl.nil | apply Tl.cons)
  · exact (fun A w' hA => St.sub hA (by simp only [List.cons_append, List.nil_append]; repeat (first | exact List.nil_sublist _ | exact List.Sublist.refl _ | apply List.Sublist.cons_cons | apply List.Sublist.cons)))
  refine DP.take 12 25 (fun b => .slice (some ⟨b, 0, none⟩) 2 2) (fun b => [.own b (.cells ([.int .i64 3, .int .i64 5] : List Value).toArray 3 (0, 0))]) [] [25] [[22]] rfl rfl rfl rfl rfl rfl rfl (by decide +kernel) ⟨⟨rfl, trivial⟩, fun _ _ _ => trivial, trivial⟩ (fun A w' hA => St.sub hA (by simp only [List.cons_append, List.nil_append]; repeat (first | exact List.nil_sublist _ | exact List.Sublist.refl _ | apply List.Sublist.cons_cons | apply List.Sublist.cons))) (fun bp25 => ?_)
  refine DP.nil ?_
  refine DW.castL (by simp only [List.cons_append, List.nil_append]; exact rfl) ?_
  all_goals (
    apply DW.loud 13
    · exact rfl
    · decide +kernel
    repeat'(first|refine kg' ?_|refine kG' ?_|apply kM|refine kv' ?_|refine kK' fun _=>?_|refine kU' ?_|refine kB' fun _=>?_|refine kA' fun _=>?_|(apply kq; (· exact rfl); (· intro w1 h1; first | (have hq := CallsTo.q (m13 threeP (threeA b1 b2) w1 (thR (h1.holds (both (thr1 b1) (thr2 b2)) memZ)) threeI) h1; rw [w_chk] at hq; exact hq) | (have hq := CallsTo.q (m15 threeP (threeA b1 b2) 3 0 w1 (thR (h1.holds (both (thr1 b1) (thr2 b2)) memZ)) threeI) h1; rw [w_far] at hq; exact hq) | exact CallsTo.q (m34 0 14 w1 (by decide)) h1 | exact CallsTo.q (m34 1 24 w1 (by decide)) h1 | exact CallsTo.q (m34 2 96 w1 (by decide)) h1 | exact CallsTo.q (show CallsTo Try.prog 17 [.slice a7 2 c7, .slice _ 2 2] w1 _ from t19 a7 _ c7 2 [0, 1] [0, 1] w1 (h1.rd_of_own memZ) (h1.rd_of_blk memZ) (by decide)) h1 | exact CallsTo.q (show CallsTo Try.prog 17 [.slice a8 2 c8, .slice _ 2 2] w1 _ from t19 a8 _ c8 2 [3, 5] [3, 5] w1 (h1.rd_of_own memZ) (h1.rd_of_blk memZ) (by decide)) h1 | exact CallsTo.q (show CallsTo Try.prog 25 [.slice a9 2 c9, .slice (some ⟨bk, 0, none⟩) 2 3] w1 _ from m25 a9 (some ⟨bk, 0, none⟩) c9 3 [plcA 0 14, plcA 1 24] [plcA 0 14, plcA 1 24] w1 (h1.rd_of_own memZ) (Rd.take 8 (h1.rd_of_blk (b := bk) (cs := pcs knownW) memZ)) (by decide)) h1 | exact CallsTo.q (show CallsTo Try.prog 25 [.slice a9 1 c9, .slice (some ⟨bk, 8, none⟩) 1 1] w1 _ from m25 a9 (some ⟨bk, 8, none⟩) c9 1 [plcA 2 96] [plcA 2 96] w1 (h1.rd_of_own memZ) (rd_from8 (h1.rd_of_blk (b := bk) (cs := pcs knownW) memZ)) (by decide)) h1))|(apply LR.call; (· exact rfl); (intro w1 h1; first | (refine CallsTo.mono (show CallsTo Try.prog 33 [] w1 _ from m33 w1) ?_; rintro v w2 ⟨b1, b2, rfl, hn⟩; refine LR.back (h1.got hn th_dep) ?_; clear hn h1) | (refine CallsTo.mono (show CallsTo Try.prog 18 [threeP.val (threeA b1 b2), .int .i64 3] w1 _ from m18 threeP (threeA b1 b2) 3 w1 (thR (h1.holds (both (thr1 b1) (thr2 b2)) memZ)) threeI) ?_; rintro v w2 ⟨a7, c7, rfl, hn⟩; rw [w_sides] at hn ⊢; refine LR.back (h1.newSl hn) ?_; clear hn h1) | (refine CallsTo.mono (show CallsTo Try.prog 20 [threeP.val (threeA b1 b2), .int .i64 1] w1 _ from m20 threeP (threeA b1 b2) 1 w1 (thR (h1.holds (both (thr1 b1) (thr2 b2)) memZ)) threeI) ?_; rintro v w2 ⟨a8, c8, rfl, hn⟩; rw [w_gws] at hn ⊢; refine LR.back (h1.newSl hn) ?_; clear hn h1) | (refine CallsTo.mono (show CallsTo Try.prog 24 [threeP.val (threeA b1 b2), .int .i64 0, .slice (some ⟨bk, 0, none⟩) 3 3] w1 _ from m24 threeP (threeA b1 b2) threeI 0 knownW (some ⟨bk, 0, none⟩) 3 w1 (thR (h1.holds (both (thr1 b1) (thr2 b2)) memZ)) (h1.rd_of_blk memZ) (by decide)) ?_; rintro v w2 ⟨a9, c9, rfl, hn⟩; rw [w_view0] at hn ⊢; refine LR.back (h1.newSl hn) ?_; clear hn h1) | (refine CallsTo.mono (show CallsTo Try.prog 24 [threeP.val (threeA b1 b2), .int .i64 2, .slice (some ⟨bk, 0, none⟩) 3 3] w1 _ from m24 threeP (threeA b1 b2) threeI 2 knownW (some ⟨bk, 0, none⟩) 3 w1 (thR (h1.holds (both (thr1 b1) (thr2 b2)) memZ)) (h1.rd_of_blk memZ) (by decide)) ?_; rintro v w2 ⟨a9, c9, rfl, hn⟩; rw [w_view2] at hn ⊢; refine LR.back (h1.newSl hn) ?_; clear hn h1) | (refine CallsTo.mono (show CallsTo Try.prog 27 [.slice none 0 0, (plcA 1 24).val] w1 _ from m27 sort_few [] none 0 (plcA 1 24) w1 (Rd.nil _ _) (fun _ => rfl) (by decide) (by decide) (by decide)) ?_; rintro v w2 ⟨a10, c10, rfl, hn⟩; rw [w_lrn] at hn ⊢; refine LR.back (h1.newSl hn) ?_; clear hn h1))))
    all_goals (refine At.stage_same (fun _ h => St.sub h subZ) ?_))
  all_goals (
    apply DW.quiet [14, 15, 16, 17, 18, 19, 20, 21, 22, 24, 26, 27]
    · decide +kernel
    · first | exact fun _ h => h | exact fun _ h => St.sub h subZ
    repeat'(first|(apply QL.evg; (iterate 3 exact rfl); (· apply Ev_hi; (· exact rfl); (· exact rfl); (· decide); (· decide)); (· exact rfl))|(apply QL.evg; (iterate 3 exact rfl); (· apply Ev_lo; (· exact rfl); (· exact rfl); (· decide); (· decide); (· decide)); (· exact rfl))|refine yv' ?_|refine uv' ?_|refine un' ?_|(refine us' ?_ ?_;all_goals(intro hc;try simp only[hcs]at hc;try(exfalso;first|contradiction|omega)))|apply QL.nil)
    all_goals (show DW _ _ _ _ _ _ _ _))
  all_goals (
    apply DW.loud 23
    · exact rfl
    · decide +kernel
    repeat'(first|refine kg' ?_|refine kG' ?_|apply kM|refine kv' ?_|refine kK' fun _=>?_|refine kU' ?_|refine kB' fun _=>?_|refine kA' fun _=>?_|(apply kq; (· exact rfl); (· intro w1 h1; first | (have hq := CallsTo.q (m13 threeP (threeA b1 b2) w1 (thR (h1.holds (both (thr1 b1) (thr2 b2)) memZ)) threeI) h1; rw [w_chk] at hq; exact hq) | (have hq := CallsTo.q (m15 threeP (threeA b1 b2) 3 0 w1 (thR (h1.holds (both (thr1 b1) (thr2 b2)) memZ)) threeI) h1; rw [w_far] at hq; exact hq) | exact CallsTo.q (m34 0 14 w1 (by decide)) h1 | exact CallsTo.q (m34 1 24 w1 (by decide)) h1 | exact CallsTo.q (m34 2 96 w1 (by decide)) h1 | exact CallsTo.q (show CallsTo Try.prog 17 [.slice a7 2 c7, .slice _ 2 2] w1 _ from t19 a7 _ c7 2 [0, 1] [0, 1] w1 (h1.rd_of_own memZ) (h1.rd_of_blk memZ) (by decide)) h1 | exact CallsTo.q (show CallsTo Try.prog 17 [.slice a8 2 c8, .slice _ 2 2] w1 _ from t19 a8 _ c8 2 [3, 5] [3, 5] w1 (h1.rd_of_own memZ) (h1.rd_of_blk memZ) (by decide)) h1 | exact CallsTo.q (show CallsTo Try.prog 25 [.slice a9 2 c9, .slice (some ⟨bk, 0, none⟩) 2 3] w1 _ from m25 a9 (some ⟨bk, 0, none⟩) c9 3 [plcA 0 14, plcA 1 24] [plcA 0 14, plcA 1 24] w1 (h1.rd_of_own memZ) (Rd.take 8 (h1.rd_of_blk (b := bk) (cs := pcs knownW) memZ)) (by decide)) h1 | exact CallsTo.q (show CallsTo Try.prog 25 [.slice a9 1 c9, .slice (some ⟨bk, 8, none⟩) 1 1] w1 _ from m25 a9 (some ⟨bk, 8, none⟩) c9 1 [plcA 2 96] [plcA 2 96] w1 (h1.rd_of_own memZ) (rd_from8 (h1.rd_of_blk (b := bk) (cs := pcs knownW) memZ)) (by decide)) h1))|(apply LR.call; (· exact rfl); (intro w1 h1; first | (refine CallsTo.mono (show CallsTo Try.prog 33 [] w1 _ from m33 w1) ?_; rintro v w2 ⟨b1, b2, rfl, hn⟩; refine LR.back (h1.got hn th_dep) ?_; clear hn h1) | (refine CallsTo.mono (show CallsTo Try.prog 18 [threeP.val (threeA b1 b2), .int .i64 3] w1 _ from m18 threeP (threeA b1 b2) 3 w1 (thR (h1.holds (both (thr1 b1) (thr2 b2)) memZ)) threeI) ?_; rintro v w2 ⟨a7, c7, rfl, hn⟩; rw [w_sides] at hn ⊢; refine LR.back (h1.newSl hn) ?_; clear hn h1) | (refine CallsTo.mono (show CallsTo Try.prog 20 [threeP.val (threeA b1 b2), .int .i64 1] w1 _ from m20 threeP (threeA b1 b2) 1 w1 (thR (h1.holds (both (thr1 b1) (thr2 b2)) memZ)) threeI) ?_; rintro v w2 ⟨a8, c8, rfl, hn⟩; rw [w_gws] at hn ⊢; refine LR.back (h1.newSl hn) ?_; clear hn h1) | (refine CallsTo.mono (show CallsTo Try.prog 24 [threeP.val (threeA b1 b2), .int .i64 0, .slice (some ⟨bk, 0, none⟩) 3 3] w1 _ from m24 threeP (threeA b1 b2) threeI 0 knownW (some ⟨bk, 0, none⟩) 3 w1 (thR (h1.holds (both (thr1 b1) (thr2 b2)) memZ)) (h1.rd_of_blk memZ) (by decide)) ?_; rintro v w2 ⟨a9, c9, rfl, hn⟩; rw [w_view0] at hn ⊢; refine LR.back (h1.newSl hn) ?_; clear hn h1) | (refine CallsTo.mono (show CallsTo Try.prog 24 [threeP.val (threeA b1 b2), .int .i64 2, .slice (some ⟨bk, 0, none⟩) 3 3] w1 _ from m24 threeP (threeA b1 b2) threeI 2 knownW (some ⟨bk, 0, none⟩) 3 w1 (thR (h1.holds (both (thr1 b1) (thr2 b2)) memZ)) (h1.rd_of_blk memZ) (by decide)) ?_; rintro v w2 ⟨a9, c9, rfl, hn⟩; rw [w_view2] at hn ⊢; refine LR.back (h1.newSl hn) ?_; clear hn h1) | (refine CallsTo.mono (show CallsTo Try.prog 27 [.slice none 0 0, (plcA 1 24).val] w1 _ from m27 sort_few [] none 0 (plcA 1 24) w1 (Rd.nil _ _) (fun _ => rfl) (by decide) (by decide) (by decide)) ?_; rintro v w2 ⟨a10, c10, rfl, hn⟩; rw [w_lrn] at hn ⊢; refine LR.back (h1.newSl hn) ?_; clear hn h1))))
    all_goals (refine At.stage_same (fun _ h => St.sub h subZ) ?_))
  all_goals (
    apply DW.loud 25
    · exact rfl
    · decide +kernel
    repeat'(first|refine kg' ?_|refine kG' ?_|apply kM|refine kv' ?_|refine kK' fun _=>?_|refine kU' ?_|refine kB' fun _=>?_|refine kA' fun _=>?_|(apply kq; (· exact rfl); (· intro w1 h1; first | (have hq := CallsTo.q (m13 threeP (threeA b1 b2) w1 (thR (h1.holds (both (thr1 b1) (thr2 b2)) memZ)) threeI) h1; rw [w_chk] at hq; exact hq) | (have hq := CallsTo.q (m15 threeP (threeA b1 b2) 3 0 w1 (thR (h1.holds (both (thr1 b1) (thr2 b2)) memZ)) threeI) h1; rw [w_far] at hq; exact hq) | exact CallsTo.q (m34 0 14 w1 (by decide)) h1 | exact CallsTo.q (m34 1 24 w1 (by decide)) h1 | exact CallsTo.q (m34 2 96 w1 (by decide)) h1 | exact CallsTo.q (show CallsTo Try.prog 17 [.slice a7 2 c7, .slice _ 2 2] w1 _ from t19 a7 _ c7 2 [0, 1] [0, 1] w1 (h1.rd_of_own memZ) (h1.rd_of_blk memZ) (by decide)) h1 | exact CallsTo.q (show CallsTo Try.prog 17 [.slice a8 2 c8, .slice _ 2 2] w1 _ from t19 a8 _ c8 2 [3, 5] [3, 5] w1 (h1.rd_of_own memZ) (h1.rd_of_blk memZ) (by decide)) h1 | exact CallsTo.q (show CallsTo Try.prog 25 [.slice a9 2 c9, .slice (some ⟨bk, 0, none⟩) 2 3] w1 _ from m25 a9 (some ⟨bk, 0, none⟩) c9 3 [plcA 0 14, plcA 1 24] [plcA 0 14, plcA 1 24] w1 (h1.rd_of_own memZ) (Rd.take 8 (h1.rd_of_blk (b := bk) (cs := pcs knownW) memZ)) (by decide)) h1 | exact CallsTo.q (show CallsTo Try.prog 25 [.slice a9 1 c9, .slice (some ⟨bk, 8, none⟩) 1 1] w1 _ from m25 a9 (some ⟨bk, 8, none⟩) c9 1 [plcA 2 96] [plcA 2 96] w1 (h1.rd_of_own memZ) (rd_from8 (h1.rd_of_blk (b := bk) (cs := pcs knownW) memZ)) (by decide)) h1))|(apply LR.call; (· exact rfl); (intro w1 h1; first | (refine CallsTo.mono (show CallsTo Try.prog 33 [] w1 _ from m33 w1) ?_; rintro v w2 ⟨b1, b2, rfl, hn⟩; refine LR.back (h1.got hn th_dep) ?_; clear hn h1) | (refine CallsTo.mono (show CallsTo Try.prog 18 [threeP.val (threeA b1 b2), .int .i64 3] w1 _ from m18 threeP (threeA b1 b2) 3 w1 (thR (h1.holds (both (thr1 b1) (thr2 b2)) memZ)) threeI) ?_; rintro v w2 ⟨a7, c7, rfl, hn⟩; rw [w_sides] at hn ⊢; refine LR.back (h1.newSl hn) ?_; clear hn h1) | (refine CallsTo.mono (show CallsTo Try.prog 20 [threeP.val (threeA b1 b2), .int .i64 1] w1 _ from m20 threeP (threeA b1 b2) 1 w1 (thR (h1.holds (both (thr1 b1) (thr2 b2)) memZ)) threeI) ?_; rintro v w2 ⟨a8, c8, rfl, hn⟩; rw [w_gws] at hn ⊢; refine LR.back (h1.newSl hn) ?_; clear hn h1) | (refine CallsTo.mono (show CallsTo Try.prog 24 [threeP.val (threeA b1 b2), .int .i64 0, .slice (some ⟨bk, 0, none⟩) 3 3] w1 _ from m24 threeP (threeA b1 b2) threeI 0 knownW (some ⟨bk, 0, none⟩) 3 w1 (thR (h1.holds (both (thr1 b1) (thr2 b2)) memZ)) (h1.rd_of_blk memZ) (by decide)) ?_; rintro v w2 ⟨a9, c9, rfl, hn⟩; rw [w_view0] at hn ⊢; refine LR.back (h1.newSl hn) ?_; clear hn h1) | (refine CallsTo.mono (show CallsTo Try.prog 24 [threeP.val (threeA b1 b2), .int .i64 2, .slice (some ⟨bk, 0, none⟩) 3 3] w1 _ from m24 threeP (threeA b1 b2) threeI 2 knownW (some ⟨bk, 0, none⟩) 3 w1 (thR (h1.holds (both (thr1 b1) (thr2 b2)) memZ)) (h1.rd_of_blk memZ) (by decide)) ?_; rintro v w2 ⟨a9, c9, rfl, hn⟩; rw [w_view2] at hn ⊢; refine LR.back (h1.newSl hn) ?_; clear hn h1) | (refine CallsTo.mono (show CallsTo Try.prog 27 [.slice none 0 0, (plcA 1 24).val] w1 _ from m27 sort_few [] none 0 (plcA 1 24) w1 (Rd.nil _ _) (fun _ => rfl) (by decide) (by decide) (by decide)) ?_; rintro v w2 ⟨a10, c10, rfl, hn⟩; rw [w_lrn] at hn ⊢; refine LR.back (h1.newSl hn) ?_; clear hn h1))))
    all_goals (refine At.stage_same (fun _ h => St.sub h subZ) ?_))
  all_goals (
    apply DW.loud 28
    · exact rfl
    · decide +kernel
    repeat'(first|refine kg' ?_|refine kG' ?_|apply kM|refine kv' ?_|refine kK' fun _=>?_|refine kU' ?_|refine kB' fun _=>?_|refine kA' fun _=>?_|(apply kq; (· exact rfl); (· intro w1 h1; first | (have hq := CallsTo.q (m13 threeP (threeA b1 b2) w1 (thR (h1.holds (both (thr1 b1) (thr2 b2)) memZ)) threeI) h1; rw [w_chk] at hq; exact hq) | (have hq := CallsTo.q (m15 threeP (threeA b1 b2) 3 0 w1 (thR (h1.holds (both (thr1 b1) (thr2 b2)) memZ)) threeI) h1; rw [w_far] at hq; exact hq) | exact CallsTo.q (m34 0 14 w1 (by decide)) h1 | exact CallsTo.q (m34 1 24 w1 (by decide)) h1 | exact CallsTo.q (m34 2 96 w1 (by decide)) h1 | exact CallsTo.q (show CallsTo Try.prog 17 [.slice a7 2 c7, .slice _ 2 2] w1 _ from t19 a7 _ c7 2 [0, 1] [0, 1] w1 (h1.rd_of_own memZ) (h1.rd_of_blk memZ) (by decide)) h1 | exact CallsTo.q (show CallsTo Try.prog 17 [.slice a8 2 c8, .slice _ 2 2] w1 _ from t19 a8 _ c8 2 [3, 5] [3, 5] w1 (h1.rd_of_own memZ) (h1.rd_of_blk memZ) (by decide)) h1 | exact CallsTo.q (show CallsTo Try.prog 25 [.slice a9 2 c9, .slice (some ⟨bk, 0, none⟩) 2 3] w1 _ from m25 a9 (some ⟨bk, 0, none⟩) c9 3 [plcA 0 14, plcA 1 24] [plcA 0 14, plcA 1 24] w1 (h1.rd_of_own memZ) (Rd.take 8 (h1.rd_of_blk (b := bk) (cs := pcs knownW) memZ)) (by decide)) h1 | exact CallsTo.q (show CallsTo Try.prog 25 [.slice a9 1 c9, .slice (some ⟨bk, 8, none⟩) 1 1] w1 _ from m25 a9 (some ⟨bk, 8, none⟩) c9 1 [plcA 2 96] [plcA 2 96] w1 (h1.rd_of_own memZ) (rd_from8 (h1.rd_of_blk (b := bk) (cs := pcs knownW) memZ)) (by decide)) h1))|(apply LR.call; (· exact rfl); (intro w1 h1; first | (refine CallsTo.mono (show CallsTo Try.prog 33 [] w1 _ from m33 w1) ?_; rintro v w2 ⟨b1, b2, rfl, hn⟩; refine LR.back (h1.got hn th_dep) ?_; clear hn h1) | (refine CallsTo.mono (show CallsTo Try.prog 18 [threeP.val (threeA b1 b2), .int .i64 3] w1 _ from m18 threeP (threeA b1 b2) 3 w1 (thR (h1.holds (both (thr1 b1) (thr2 b2)) memZ)) threeI) ?_; rintro v w2 ⟨a7, c7, rfl, hn⟩; rw [w_sides] at hn ⊢; refine LR.back (h1.newSl hn) ?_; clear hn h1) | (refine CallsTo.mono (show CallsTo Try.prog 20 [threeP.val (threeA b1 b2), .int .i64 1] w1 _ from m20 threeP (threeA b1 b2) 1 w1 (thR (h1.holds (both (thr1 b1) (thr2 b2)) memZ)) threeI) ?_; rintro v w2 ⟨a8, c8, rfl, hn⟩; rw [w_gws] at hn ⊢; refine LR.back (h1.newSl hn) ?_; clear hn h1) | (refine CallsTo.mono (show CallsTo Try.prog 24 [threeP.val (threeA b1 b2), .int .i64 0, .slice (some ⟨bk, 0, none⟩) 3 3] w1 _ from m24 threeP (threeA b1 b2) threeI 0 knownW (some ⟨bk, 0, none⟩) 3 w1 (thR (h1.holds (both (thr1 b1) (thr2 b2)) memZ)) (h1.rd_of_blk memZ) (by decide)) ?_; rintro v w2 ⟨a9, c9, rfl, hn⟩; rw [w_view0] at hn ⊢; refine LR.back (h1.newSl hn) ?_; clear hn h1) | (refine CallsTo.mono (show CallsTo Try.prog 24 [threeP.val (threeA b1 b2), .int .i64 2, .slice (some ⟨bk, 0, none⟩) 3 3] w1 _ from m24 threeP (threeA b1 b2) threeI 2 knownW (some ⟨bk, 0, none⟩) 3 w1 (thR (h1.holds (both (thr1 b1) (thr2 b2)) memZ)) (h1.rd_of_blk memZ) (by decide)) ?_; rintro v w2 ⟨a9, c9, rfl, hn⟩; rw [w_view2] at hn ⊢; refine LR.back (h1.newSl hn) ?_; clear hn h1) | (refine CallsTo.mono (show CallsTo Try.prog 27 [.slice none 0 0, (plcA 1 24).val] w1 _ from m27 sort_few [] none 0 (plcA 1 24) w1 (Rd.nil _ _) (fun _ => rfl) (by decide) (by decide) (by decide)) ?_; rintro v w2 ⟨a10, c10, rfl, hn⟩; rw [w_lrn] at hn ⊢; refine LR.back (h1.newSl hn) ?_; clear hn h1))))
    all_goals (refine At.stage_same (fun _ h => St.sub h subZ) ?_))
  all_goals (
    apply DW.quiet [29, 30, 32, 34, 35]
    · decide +kernel
    · first | exact fun _ h => h | exact fun _ h => St.sub h subZ
    repeat'(first|(apply QL.evg; (iterate 3 exact rfl); (· apply Ev_hi; (· exact rfl); (· exact rfl); (· decide); (· decide)); (· exact rfl))|(apply QL.evg; (iterate 3 exact rfl); (· apply Ev_lo; (· exact rfl); (· exact rfl); (· decide); (· decide); (· decide)); (· exact rfl))|refine yv' ?_|refine uv' ?_|refine un' ?_|(refine us' ?_ ?_;all_goals(intro hc;try simp only[hcs]at hc;try(exfalso;first|contradiction|omega)))|apply QL.nil)
    all_goals (show DW _ _ _ _ _ _ _ _))
  all_goals (
    apply DW.loud 31
    · exact rfl
    · decide +kernel
    repeat'(first|refine kg' ?_|refine kG' ?_|apply kM|refine kv' ?_|refine kK' fun _=>?_|refine kU' ?_|refine kB' fun _=>?_|refine kA' fun _=>?_|(apply kq; (· exact rfl); (· intro w1 h1; first | (have hq := CallsTo.q (m13 threeP (threeA b1 b2) w1 (thR (h1.holds (both (thr1 b1) (thr2 b2)) memZ)) threeI) h1; rw [w_chk] at hq; exact hq) | (have hq := CallsTo.q (m15 threeP (threeA b1 b2) 3 0 w1 (thR (h1.holds (both (thr1 b1) (thr2 b2)) memZ)) threeI) h1; rw [w_far] at hq; exact hq) | exact CallsTo.q (m34 0 14 w1 (by decide)) h1 | exact CallsTo.q (m34 1 24 w1 (by decide)) h1 | exact CallsTo.q (m34 2 96 w1 (by decide)) h1 | exact CallsTo.q (show CallsTo Try.prog 17 [.slice a7 2 c7, .slice _ 2 2] w1 _ from t19 a7 _ c7 2 [0, 1] [0, 1] w1 (h1.rd_of_own memZ) (h1.rd_of_blk memZ) (by decide)) h1 | exact CallsTo.q (show CallsTo Try.prog 17 [.slice a8 2 c8, .slice _ 2 2] w1 _ from t19 a8 _ c8 2 [3, 5] [3, 5] w1 (h1.rd_of_own memZ) (h1.rd_of_blk memZ) (by decide)) h1 | exact CallsTo.q (show CallsTo Try.prog 25 [.slice a9 2 c9, .slice (some ⟨bk, 0, none⟩) 2 3] w1 _ from m25 a9 (some ⟨bk, 0, none⟩) c9 3 [plcA 0 14, plcA 1 24] [plcA 0 14, plcA 1 24] w1 (h1.rd_of_own memZ) (Rd.take 8 (h1.rd_of_blk (b := bk) (cs := pcs knownW) memZ)) (by decide)) h1 | exact CallsTo.q (show CallsTo Try.prog 25 [.slice a9 1 c9, .slice (some ⟨bk, 8, none⟩) 1 1] w1 _ from m25 a9 (some ⟨bk, 8, none⟩) c9 1 [plcA 2 96] [plcA 2 96] w1 (h1.rd_of_own memZ) (rd_from8 (h1.rd_of_blk (b := bk) (cs := pcs knownW) memZ)) (by decide)) h1))|(apply LR.call; (· exact rfl); (intro w1 h1; first | (refine CallsTo.mono (show CallsTo Try.prog 33 [] w1 _ from m33 w1) ?_; rintro v w2 ⟨b1, b2, rfl, hn⟩; refine LR.back (h1.got hn th_dep) ?_; clear hn h1) | (refine CallsTo.mono (show CallsTo Try.prog 18 [threeP.val (threeA b1 b2), .int .i64 3] w1 _ from m18 threeP (threeA b1 b2) 3 w1 (thR (h1.holds (both (thr1 b1) (thr2 b2)) memZ)) threeI) ?_; rintro v w2 ⟨a7, c7, rfl, hn⟩; rw [w_sides] at hn ⊢; refine LR.back (h1.newSl hn) ?_; clear hn h1) | (refine CallsTo.mono (show CallsTo Try.prog 20 [threeP.val (threeA b1 b2), .int .i64 1] w1 _ from m20 threeP (threeA b1 b2) 1 w1 (thR (h1.holds (both (thr1 b1) (thr2 b2)) memZ)) threeI) ?_; rintro v w2 ⟨a8, c8, rfl, hn⟩; rw [w_gws] at hn ⊢; refine LR.back (h1.newSl hn) ?_; clear hn h1) | (refine CallsTo.mono (show CallsTo Try.prog 24 [threeP.val (threeA b1 b2), .int .i64 0, .slice (some ⟨bk, 0, none⟩) 3 3] w1 _ from m24 threeP (threeA b1 b2) threeI 0 knownW (some ⟨bk, 0, none⟩) 3 w1 (thR (h1.holds (both (thr1 b1) (thr2 b2)) memZ)) (h1.rd_of_blk memZ) (by decide)) ?_; rintro v w2 ⟨a9, c9, rfl, hn⟩; rw [w_view0] at hn ⊢; refine LR.back (h1.newSl hn) ?_; clear hn h1) | (refine CallsTo.mono (show CallsTo Try.prog 24 [threeP.val (threeA b1 b2), .int .i64 2, .slice (some ⟨bk, 0, none⟩) 3 3] w1 _ from m24 threeP (threeA b1 b2) threeI 2 knownW (some ⟨bk, 0, none⟩) 3 w1 (thR (h1.holds (both (thr1 b1) (thr2 b2)) memZ)) (h1.rd_of_blk memZ) (by decide)) ?_; rintro v w2 ⟨a9, c9, rfl, hn⟩; rw [w_view2] at hn ⊢; refine LR.back (h1.newSl hn) ?_; clear hn h1) | (refine CallsTo.mono (show CallsTo Try.prog 27 [.slice none 0 0, (plcA 1 24).val] w1 _ from m27 sort_few [] none 0 (plcA 1 24) w1 (Rd.nil _ _) (fun _ => rfl) (by decide) (by decide) (by decide)) ?_; rintro v w2 ⟨a10, c10, rfl, hn⟩; rw [w_lrn] at hn ⊢; refine LR.back (h1.newSl hn) ?_; clear hn h1))))
    all_goals (refine At.stage_same (fun _ h => St.sub h subZ) ?_))
  all_goals (
    apply DW.loud 33
    · exact rfl
    · decide +kernel
    repeat'(first|refine kg' ?_|refine kG' ?_|apply kM|refine kv' ?_|refine kK' fun _=>?_|refine kU' ?_|refine kB' fun _=>?_|refine kA' fun _=>?_|(apply kq; (· exact rfl); (· intro w1 h1; first | (have hq := CallsTo.q (m13 threeP (threeA b1 b2) w1 (thR (h1.holds (both (thr1 b1) (thr2 b2)) memZ)) threeI) h1; rw [w_chk] at hq; exact hq) | (have hq := CallsTo.q (m15 threeP (threeA b1 b2) 3 0 w1 (thR (h1.holds (both (thr1 b1) (thr2 b2)) memZ)) threeI) h1; rw [w_far] at hq; exact hq) | exact CallsTo.q (m34 0 14 w1 (by decide)) h1 | exact CallsTo.q (m34 1 24 w1 (by decide)) h1 | exact CallsTo.q (m34 2 96 w1 (by decide)) h1 | exact CallsTo.q (show CallsTo Try.prog 17 [.slice a7 2 c7, .slice _ 2 2] w1 _ from t19 a7 _ c7 2 [0, 1] [0, 1] w1 (h1.rd_of_own memZ) (h1.rd_of_blk memZ) (by decide)) h1 | exact CallsTo.q (show CallsTo Try.prog 17 [.slice a8 2 c8, .slice _ 2 2] w1 _ from t19 a8 _ c8 2 [3, 5] [3, 5] w1 (h1.rd_of_own memZ) (h1.rd_of_blk memZ) (by decide)) h1 | exact CallsTo.q (show CallsTo Try.prog 25 [.slice a9 2 c9, .slice (some ⟨bk, 0, none⟩) 2 3] w1 _ from m25 a9 (some ⟨bk, 0, none⟩) c9 3 [plcA 0 14, plcA 1 24] [plcA 0 14, plcA 1 24] w1 (h1.rd_of_own memZ) (Rd.take 8 (h1.rd_of_blk (b := bk) (cs := pcs knownW) memZ)) (by decide)) h1 | exact CallsTo.q (show CallsTo Try.prog 25 [.slice a9 1 c9, .slice (some ⟨bk, 8, none⟩) 1 1] w1 _ from m25 a9 (some ⟨bk, 8, none⟩) c9 1 [plcA 2 96] [plcA 2 96] w1 (h1.rd_of_own memZ) (rd_from8 (h1.rd_of_blk (b := bk) (cs := pcs knownW) memZ)) (by decide)) h1))|(apply LR.call; (· exact rfl); (intro w1 h1; first | (refine CallsTo.mono (show CallsTo Try.prog 33 [] w1 _ from m33 w1) ?_; rintro v w2 ⟨b1, b2, rfl, hn⟩; refine LR.back (h1.got hn th_dep) ?_; clear hn h1) | (refine CallsTo.mono (show CallsTo Try.prog 18 [threeP.val (threeA b1 b2), .int .i64 3] w1 _ from m18 threeP (threeA b1 b2) 3 w1 (thR (h1.holds (both (thr1 b1) (thr2 b2)) memZ)) threeI) ?_; rintro v w2 ⟨a7, c7, rfl, hn⟩; rw [w_sides] at hn ⊢; refine LR.back (h1.newSl hn) ?_; clear hn h1) | (refine CallsTo.mono (show CallsTo Try.prog 20 [threeP.val (threeA b1 b2), .int .i64 1] w1 _ from m20 threeP (threeA b1 b2) 1 w1 (thR (h1.holds (both (thr1 b1) (thr2 b2)) memZ)) threeI) ?_; rintro v w2 ⟨a8, c8, rfl, hn⟩; rw [w_gws] at hn ⊢; refine LR.back (h1.newSl hn) ?_; clear hn h1) | (refine CallsTo.mono (show CallsTo Try.prog 24 [threeP.val (threeA b1 b2), .int .i64 0, .slice (some ⟨bk, 0, none⟩) 3 3] w1 _ from m24 threeP (threeA b1 b2) threeI 0 knownW (some ⟨bk, 0, none⟩) 3 w1 (thR (h1.holds (both (thr1 b1) (thr2 b2)) memZ)) (h1.rd_of_blk memZ) (by decide)) ?_; rintro v w2 ⟨a9, c9, rfl, hn⟩; rw [w_view0] at hn ⊢; refine LR.back (h1.newSl hn) ?_; clear hn h1) | (refine CallsTo.mono (show CallsTo Try.prog 24 [threeP.val (threeA b1 b2), .int .i64 2, .slice (some ⟨bk, 0, none⟩) 3 3] w1 _ from m24 threeP (threeA b1 b2) threeI 2 knownW (some ⟨bk, 0, none⟩) 3 w1 (thR (h1.holds (both (thr1 b1) (thr2 b2)) memZ)) (h1.rd_of_blk memZ) (by decide)) ?_; rintro v w2 ⟨a9, c9, rfl, hn⟩; rw [w_view2] at hn ⊢; refine LR.back (h1.newSl hn) ?_; clear hn h1) | (refine CallsTo.mono (show CallsTo Try.prog 27 [.slice none 0 0, (plcA 1 24).val] w1 _ from m27 sort_few [] none 0 (plcA 1 24) w1 (Rd.nil _ _) (fun _ => rfl) (by decide) (by decide) (by decide)) ?_; rintro v w2 ⟨a10, c10, rfl, hn⟩; rw [w_lrn] at hn ⊢; refine LR.back (h1.newSl hn) ?_; clear hn h1))))
    all_goals (refine At.stage_same (fun _ h => St.sub h subZ) ?_))
  all_goals (
    apply DW.loud 36
    · exact rfl
    · decide +kernel
    repeat'(first|refine kg' ?_|refine kG' ?_|apply kM|refine kv' ?_|refine kK' fun _=>?_|refine kU' ?_|refine kB' fun _=>?_|refine kA' fun _=>?_|(apply kq; (· exact rfl); (· intro w1 h1; first | (have hq := CallsTo.q (m13 threeP (threeA b1 b2) w1 (thR (h1.holds (both (thr1 b1) (thr2 b2)) memZ)) threeI) h1; rw [w_chk] at hq; exact hq) | (have hq := CallsTo.q (m15 threeP (threeA b1 b2) 3 0 w1 (thR (h1.holds (both (thr1 b1) (thr2 b2)) memZ)) threeI) h1; rw [w_far] at hq; exact hq) | exact CallsTo.q (m34 0 14 w1 (by decide)) h1 | exact CallsTo.q (m34 1 24 w1 (by decide)) h1 | exact CallsTo.q (m34 2 96 w1 (by decide)) h1 | exact CallsTo.q (show CallsTo Try.prog 17 [.slice a7 2 c7, .slice _ 2 2] w1 _ from t19 a7 _ c7 2 [0, 1] [0, 1] w1 (h1.rd_of_own memZ) (h1.rd_of_blk memZ) (by decide)) h1 | exact CallsTo.q (show CallsTo Try.prog 17 [.slice a8 2 c8, .slice _ 2 2] w1 _ from t19 a8 _ c8 2 [3, 5] [3, 5] w1 (h1.rd_of_own memZ) (h1.rd_of_blk memZ) (by decide)) h1 | exact CallsTo.q (show CallsTo Try.prog 25 [.slice a9 2 c9, .slice (some ⟨bk, 0, none⟩) 2 3] w1 _ from m25 a9 (some ⟨bk, 0, none⟩) c9 3 [plcA 0 14, plcA 1 24] [plcA 0 14, plcA 1 24] w1 (h1.rd_of_own memZ) (Rd.take 8 (h1.rd_of_blk (b := bk) (cs := pcs knownW) memZ)) (by decide)) h1 | exact CallsTo.q (show CallsTo Try.prog 25 [.slice a9 1 c9, .slice (some ⟨bk, 8, none⟩) 1 1] w1 _ from m25 a9 (some ⟨bk, 8, none⟩) c9 1 [plcA 2 96] [plcA 2 96] w1 (h1.rd_of_own memZ) (rd_from8 (h1.rd_of_blk (b := bk) (cs := pcs knownW) memZ)) (by decide)) h1))|(apply LR.call; (· exact rfl); (intro w1 h1; first | (refine CallsTo.mono (show CallsTo Try.prog 33 [] w1 _ from m33 w1) ?_; rintro v w2 ⟨b1, b2, rfl, hn⟩; refine LR.back (h1.got hn th_dep) ?_; clear hn h1) | (refine CallsTo.mono (show CallsTo Try.prog 18 [threeP.val (threeA b1 b2), .int .i64 3] w1 _ from m18 threeP (threeA b1 b2) 3 w1 (thR (h1.holds (both (thr1 b1) (thr2 b2)) memZ)) threeI) ?_; rintro v w2 ⟨a7, c7, rfl, hn⟩; rw [w_sides] at hn ⊢; refine LR.back (h1.newSl hn) ?_; clear hn h1) | (refine CallsTo.mono (show CallsTo Try.prog 20 [threeP.val (threeA b1 b2), .int .i64 1] w1 _ from m20 threeP (threeA b1 b2) 1 w1 (thR (h1.holds (both (thr1 b1) (thr2 b2)) memZ)) threeI) ?_; rintro v w2 ⟨a8, c8, rfl, hn⟩; rw [w_gws] at hn ⊢; refine LR.back (h1.newSl hn) ?_; clear hn h1) | (refine CallsTo.mono (show CallsTo Try.prog 24 [threeP.val (threeA b1 b2), .int .i64 0, .slice (some ⟨bk, 0, none⟩) 3 3] w1 _ from m24 threeP (threeA b1 b2) threeI 0 knownW (some ⟨bk, 0, none⟩) 3 w1 (thR (h1.holds (both (thr1 b1) (thr2 b2)) memZ)) (h1.rd_of_blk memZ) (by decide)) ?_; rintro v w2 ⟨a9, c9, rfl, hn⟩; rw [w_view0] at hn ⊢; refine LR.back (h1.newSl hn) ?_; clear hn h1) | (refine CallsTo.mono (show CallsTo Try.prog 24 [threeP.val (threeA b1 b2), .int .i64 2, .slice (some ⟨bk, 0, none⟩) 3 3] w1 _ from m24 threeP (threeA b1 b2) threeI 2 knownW (some ⟨bk, 0, none⟩) 3 w1 (thR (h1.holds (both (thr1 b1) (thr2 b2)) memZ)) (h1.rd_of_blk memZ) (by decide)) ?_; rintro v w2 ⟨a9, c9, rfl, hn⟩; rw [w_view2] at hn ⊢; refine LR.back (h1.newSl hn) ?_; clear hn h1) | (refine CallsTo.mono (show CallsTo Try.prog 27 [.slice none 0 0, (plcA 1 24).val] w1 _ from m27 sort_few [] none 0 (plcA 1 24) w1 (Rd.nil _ _) (fun _ => rfl) (by decide) (by decide) (by decide)) ?_; rintro v w2 ⟨a10, c10, rfl, hn⟩; rw [w_lrn] at hn ⊢; refine LR.back (h1.newSl hn) ?_; clear hn h1))))
    all_goals (refine At.stage_same (fun _ h => St.sub h subZ) ?_))
  all_goals (
    apply DW.quiet [37, 38]
    · decide +kernel
    · first | exact fun _ h => h | exact fun _ h => St.sub h subZ
    repeat'(first|(apply QL.evg; (iterate 3 exact rfl); (· apply Ev_hi; (· exact rfl); (· exact rfl); (· decide); (· decide)); (· exact rfl))|(apply QL.evg; (iterate 3 exact rfl); (· apply Ev_lo; (· exact rfl); (· exact rfl); (· decide); (· decide); (· decide)); (· exact rfl))|refine yv' ?_|refine uv' ?_|refine un' ?_|(refine us' ?_ ?_;all_goals(intro hc;try simp only[hcs]at hc;try(exfalso;first|contradiction|omega)))|apply QL.nil)
    all_goals (show DW _ _ _ _ _ _ _ _))
  all_goals (
    apply DW.loud 39
    · exact rfl
    · decide +kernel
    repeat'(first|refine kg' ?_|refine kG' ?_|apply kM|refine kv' ?_|refine kK' fun _=>?_|refine kU' ?_|refine kB' fun _=>?_|refine kA' fun _=>?_|(apply kq; (· exact rfl); (· intro w1 h1; first | (have hq := CallsTo.q (m13 threeP (threeA b1 b2) w1 (thR (h1.holds (both (thr1 b1) (thr2 b2)) memZ)) threeI) h1; rw [w_chk] at hq; exact hq) | (have hq := CallsTo.q (m15 threeP (threeA b1 b2) 3 0 w1 (thR (h1.holds (both (thr1 b1) (thr2 b2)) memZ)) threeI) h1; rw [w_far] at hq; exact hq) | exact CallsTo.q (m34 0 14 w1 (by decide)) h1 | exact CallsTo.q (m34 1 24 w1 (by decide)) h1 | exact CallsTo.q (m34 2 96 w1 (by decide)) h1 | exact CallsTo.q (show CallsTo Try.prog 17 [.slice a7 2 c7, .slice _ 2 2] w1 _ from t19 a7 _ c7 2 [0, 1] [0, 1] w1 (h1.rd_of_own memZ) (h1.rd_of_blk memZ) (by decide)) h1 | exact CallsTo.q (show CallsTo Try.prog 17 [.slice a8 2 c8, .slice _ 2 2] w1 _ from t19 a8 _ c8 2 [3, 5] [3, 5] w1 (h1.rd_of_own memZ) (h1.rd_of_blk memZ) (by decide)) h1 | exact CallsTo.q (show CallsTo Try.prog 25 [.slice a9 2 c9, .slice (some ⟨bk, 0, none⟩) 2 3] w1 _ from m25 a9 (some ⟨bk, 0, none⟩) c9 3 [plcA 0 14, plcA 1 24] [plcA 0 14, plcA 1 24] w1 (h1.rd_of_own memZ) (Rd.take 8 (h1.rd_of_blk (b := bk) (cs := pcs knownW) memZ)) (by decide)) h1 | exact CallsTo.q (show CallsTo Try.prog 25 [.slice a9 1 c9, .slice (some ⟨bk, 8, none⟩) 1 1] w1 _ from m25 a9 (some ⟨bk, 8, none⟩) c9 1 [plcA 2 96] [plcA 2 96] w1 (h1.rd_of_own memZ) (rd_from8 (h1.rd_of_blk (b := bk) (cs := pcs knownW) memZ)) (by decide)) h1))|(apply LR.call; (· exact rfl); (intro w1 h1; first | (refine CallsTo.mono (show CallsTo Try.prog 33 [] w1 _ from m33 w1) ?_; rintro v w2 ⟨b1, b2, rfl, hn⟩; refine LR.back (h1.got hn th_dep) ?_; clear hn h1) | (refine CallsTo.mono (show CallsTo Try.prog 18 [threeP.val (threeA b1 b2), .int .i64 3] w1 _ from m18 threeP (threeA b1 b2) 3 w1 (thR (h1.holds (both (thr1 b1) (thr2 b2)) memZ)) threeI) ?_; rintro v w2 ⟨a7, c7, rfl, hn⟩; rw [w_sides] at hn ⊢; refine LR.back (h1.newSl hn) ?_; clear hn h1) | (refine CallsTo.mono (show CallsTo Try.prog 20 [threeP.val (threeA b1 b2), .int .i64 1] w1 _ from m20 threeP (threeA b1 b2) 1 w1 (thR (h1.holds (both (thr1 b1) (thr2 b2)) memZ)) threeI) ?_; rintro v w2 ⟨a8, c8, rfl, hn⟩; rw [w_gws] at hn ⊢; refine LR.back (h1.newSl hn) ?_; clear hn h1) | (refine CallsTo.mono (show CallsTo Try.prog 24 [threeP.val (threeA b1 b2), .int .i64 0, .slice (some ⟨bk, 0, none⟩) 3 3] w1 _ from m24 threeP (threeA b1 b2) threeI 0 knownW (some ⟨bk, 0, none⟩) 3 w1 (thR (h1.holds (both (thr1 b1) (thr2 b2)) memZ)) (h1.rd_of_blk memZ) (by decide)) ?_; rintro v w2 ⟨a9, c9, rfl, hn⟩; rw [w_view0] at hn ⊢; refine LR.back (h1.newSl hn) ?_; clear hn h1) | (refine CallsTo.mono (show CallsTo Try.prog 24 [threeP.val (threeA b1 b2), .int .i64 2, .slice (some ⟨bk, 0, none⟩) 3 3] w1 _ from m24 threeP (threeA b1 b2) threeI 2 knownW (some ⟨bk, 0, none⟩) 3 w1 (thR (h1.holds (both (thr1 b1) (thr2 b2)) memZ)) (h1.rd_of_blk memZ) (by decide)) ?_; rintro v w2 ⟨a9, c9, rfl, hn⟩; rw [w_view2] at hn ⊢; refine LR.back (h1.newSl hn) ?_; clear hn h1) | (refine CallsTo.mono (show CallsTo Try.prog 27 [.slice none 0 0, (plcA 1 24).val] w1 _ from m27 sort_few [] none 0 (plcA 1 24) w1 (Rd.nil _ _) (fun _ => rfl) (by decide) (by decide) (by decide)) ?_; rintro v w2 ⟨a10, c10, rfl, hn⟩; rw [w_lrn] at hn ⊢; refine LR.back (h1.newSl hn) ?_; clear hn h1))))
    all_goals (refine At.stage_same (fun _ h => St.sub h subZ) ?_))
  all_goals (
    apply DW.loud 40
    · exact rfl
    · decide +kernel
    repeat'(first|refine kg' ?_|refine kG' ?_|apply kM|refine kv' ?_|refine kK' fun _=>?_|refine kU' ?_|refine kB' fun _=>?_|refine kA' fun _=>?_|(apply kq; (· exact rfl); (· intro w1 h1; first | (have hq := CallsTo.q (m13 threeP (threeA b1 b2) w1 (thR (h1.holds (both (thr1 b1) (thr2 b2)) memZ)) threeI) h1; rw [w_chk] at hq; exact hq) | (have hq := CallsTo.q (m15 threeP (threeA b1 b2) 3 0 w1 (thR (h1.holds (both (thr1 b1) (thr2 b2)) memZ)) threeI) h1; rw [w_far] at hq; exact hq) | exact CallsTo.q (m34 0 14 w1 (by decide)) h1 | exact CallsTo.q (m34 1 24 w1 (by decide)) h1 | exact CallsTo.q (m34 2 96 w1 (by decide)) h1 | exact CallsTo.q (show CallsTo Try.prog 17 [.slice a7 2 c7, .slice _ 2 2] w1 _ from t19 a7 _ c7 2 [0, 1] [0, 1] w1 (h1.rd_of_own memZ) (h1.rd_of_blk memZ) (by decide)) h1 | exact CallsTo.q (show CallsTo Try.prog 17 [.slice a8 2 c8, .slice _ 2 2] w1 _ from t19 a8 _ c8 2 [3, 5] [3, 5] w1 (h1.rd_of_own memZ) (h1.rd_of_blk memZ) (by decide)) h1 | exact CallsTo.q (show CallsTo Try.prog 25 [.slice a9 2 c9, .slice (some ⟨bk, 0, none⟩) 2 3] w1 _ from m25 a9 (some ⟨bk, 0, none⟩) c9 3 [plcA 0 14, plcA 1 24] [plcA 0 14, plcA 1 24] w1 (h1.rd_of_own memZ) (Rd.take 8 (h1.rd_of_blk (b := bk) (cs := pcs knownW) memZ)) (by decide)) h1 | exact CallsTo.q (show CallsTo Try.prog 25 [.slice a9 1 c9, .slice (some ⟨bk, 8, none⟩) 1 1] w1 _ from m25 a9 (some ⟨bk, 8, none⟩) c9 1 [plcA 2 96] [plcA 2 96] w1 (h1.rd_of_own memZ) (rd_from8 (h1.rd_of_blk (b := bk) (cs := pcs knownW) memZ)) (by decide)) h1))|(apply LR.call; (· exact rfl); (intro w1 h1; first | (refine CallsTo.mono (show CallsTo Try.prog 33 [] w1 _ from m33 w1) ?_; rintro v w2 ⟨b1, b2, rfl, hn⟩; refine LR.back (h1.got hn th_dep) ?_; clear hn h1) | (refine CallsTo.mono (show CallsTo Try.prog 18 [threeP.val (threeA b1 b2), .int .i64 3] w1 _ from m18 threeP (threeA b1 b2) 3 w1 (thR (h1.holds (both (thr1 b1) (thr2 b2)) memZ)) threeI) ?_; rintro v w2 ⟨a7, c7, rfl, hn⟩; rw [w_sides] at hn ⊢; refine LR.back (h1.newSl hn) ?_; clear hn h1) | (refine CallsTo.mono (show CallsTo Try.prog 20 [threeP.val (threeA b1 b2), .int .i64 1] w1 _ from m20 threeP (threeA b1 b2) 1 w1 (thR (h1.holds (both (thr1 b1) (thr2 b2)) memZ)) threeI) ?_; rintro v w2 ⟨a8, c8, rfl, hn⟩; rw [w_gws] at hn ⊢; refine LR.back (h1.newSl hn) ?_; clear hn h1) | (refine CallsTo.mono (show CallsTo Try.prog 24 [threeP.val (threeA b1 b2), .int .i64 0, .slice (some ⟨bk, 0, none⟩) 3 3] w1 _ from m24 threeP (threeA b1 b2) threeI 0 knownW (some ⟨bk, 0, none⟩) 3 w1 (thR (h1.holds (both (thr1 b1) (thr2 b2)) memZ)) (h1.rd_of_blk memZ) (by decide)) ?_; rintro v w2 ⟨a9, c9, rfl, hn⟩; rw [w_view0] at hn ⊢; refine LR.back (h1.newSl hn) ?_; clear hn h1) | (refine CallsTo.mono (show CallsTo Try.prog 24 [threeP.val (threeA b1 b2), .int .i64 2, .slice (some ⟨bk, 0, none⟩) 3 3] w1 _ from m24 threeP (threeA b1 b2) threeI 2 knownW (some ⟨bk, 0, none⟩) 3 w1 (thR (h1.holds (both (thr1 b1) (thr2 b2)) memZ)) (h1.rd_of_blk memZ) (by decide)) ?_; rintro v w2 ⟨a9, c9, rfl, hn⟩; rw [w_view2] at hn ⊢; refine LR.back (h1.newSl hn) ?_; clear hn h1) | (refine CallsTo.mono (show CallsTo Try.prog 27 [.slice none 0 0, (plcA 1 24).val] w1 _ from m27 sort_few [] none 0 (plcA 1 24) w1 (Rd.nil _ _) (fun _ => rfl) (by decide) (by decide) (by decide)) ?_; rintro v w2 ⟨a10, c10, rfl, hn⟩; rw [w_lrn] at hn ⊢; refine LR.back (h1.newSl hn) ?_; clear hn h1))))
    all_goals (refine At.stage_same (fun _ h => St.sub h subZ) ?_))
  all_goals (
    apply DW.quiet [41, 42, 43, 44]
    · decide +kernel
    · first | exact fun _ h => h | exact fun _ h => St.sub h subZ
    repeat'(first|(apply QL.evg; (iterate 3 exact rfl); (· apply Ev_hi; (· exact rfl); (· exact rfl); (· decide); (· decide)); (· exact rfl))|(apply QL.evg; (iterate 3 exact rfl); (· apply Ev_lo; (· exact rfl); (· exact rfl); (· decide); (· decide); (· decide)); (· exact rfl))|refine yv' ?_|refine uv' ?_|refine un' ?_|(refine us' ?_ ?_;all_goals(intro hc;try simp only[hcs]at hc;try(exfalso;first|contradiction|omega)))|apply QL.nil)
    all_goals (show DW _ _ _ _ _ _ _ _))
  all_goals (first | (apply DW.done_thn; (· decide +kernel)) | (apply DW.done; (· decide +kernel)))
  repeat'(first|refine kv' ?_|apply jJ|refine jE' ?_|refine jp' ?_|(apply jc;kernel_rfl)|refine kg' ?_|refine kG' ?_|refine kB' fun _=>?_|refine kA' fun _=>?_|refine kK' fun _=>?_|refine kU' ?_|((first|refine kR' ?_ ?_|refine kQ' ?_ ?_);all_goals(intro hc;try simp only[hcs]at hc;try(exfalso;first|contradiction|omega))))
  (apply ret1; (· exact rfl); intro w' hS)
  exact ⟨rfl, hS.toKeep⟩
end Go.Proofs.Ytgblmkpfkcibiaa

namespace Go.Proofs.Ytgblmkpfkcibiaa
open Go.Hb
attribute [local irreducible] LR CW At Ev thn blk finK noG again CallsTo DW QL dnext
set_option maxRecDepth 100000

end Go.Proofs.Ytgblmkpfkcibiaa

namespace Go.Proofs.Ytgblmkpfkcibiaa
open Go.Hb Go.ChangeShapes Go.WideShapes
attribute [local irreducible] LR CW At Ev thn blk finK noG again CallsTo DW QL dnext
set_option maxRecDepth 100000

theorem own_knob : ownKnob Try.prog.godebug = none := by kernel_rfl
theorem kids : Kids Try.prog (· < Try.prog.types.size) := kids_rows (by kernel_rfl) (by kernel_rfl)
theorem full_slices : ∀ t e, t < Try.prog.types.size → Try.prog.underlying t = some (.slice e) → 0 < Try.prog.cellsOf e := slices_full_of _ (by kernel_rfl)

end Go.Proofs.Ytgblmkpfkcibiaa

namespace Go.Proofs.Ytgblmkpfkcibiaa
open Go.Hb
attribute [local irreducible] LR CW At Ev thn blk finK noG again CallsTo DW QL dnext
set_option maxRecDepth 100000

end Go.Proofs.Ytgblmkpfkcibiaa

namespace Go.Proofs.Ytgblmkpfkcibiaa
open Go.Hb
attribute [local irreducible] LR CW At Ev thn blk finK noG again CallsTo DW QL dnext
set_option maxRecDepth 100000

end Go.Proofs.Ytgblmkpfkcibiaa

namespace Go.Proofs.Ytgblmkpfkcibiaa
open Go.Hb Go.ChangeShapes Go.WideShapes
attribute [local irreducible] LR CW At Ev thn blk finK noG again CallsTo DW QL dnext
set_option maxRecDepth 100000

end Go.Proofs.Ytgblmkpfkcibiaa

namespace Go.Proofs.Ytgblmkpfkcibiaa
open Go.Hb
set_option maxRecDepth 100000

structure Vst where
  node : Int
  aru : Int
  gaps : List Int
def Vst.cells (v : Vst) (a : Option Addr) (c : Nat) : List Value := [.int .i64 v.node, .int .i64 v.aru, .slice a v.gaps.length c]
def Vst.val (v : Vst) (a : Option Addr) (c : Nat) : Value := .agg (v.cells a c).toArray
end Go.Proofs.Ytgblmkpfkcibiaa

namespace Go.Proofs.Ytgblmkpfkcibiaa
open Go.Hb Go.ChangeShapes Go.WideShapes
attribute [local irreducible] LR CW At Ev thn blk finK noG again CallsTo DW QL dnext TW DP gpost
set_option maxRecDepth 100000

section
variable {P : Program} {C : World → Prop} {f : Frm} {T T' T'' : TypeId} {x y : Operand}
end
theorem x17 (a b : Option Addr) (ca cb : Nat) (l : List Int) (w : World) (ha : Rd w a (iv l)) (hb : Rd w b (iv l)) (hm : l.length ≤ 17592186043904) : CallsTo Try.prog 17 [.slice a l.length ca, .slice b l.length cb] w fun v w' => v = .bool true ∧ Grew w w' := by
  have h := t19 a b ca cb l l w ha hb hm
  rw [decide_eq_true rfl] at h
  exact h
end Go.Proofs.Ytgblmkpfkcibiaa

namespace Go.Proofs.Ytgblmkpfkcibiaa
open Go.Hb
attribute [local irreducible] LR CW At Ev thn blk finK noG again CallsTo DW QL dnext TW DP gpost
set_option maxRecDepth 100000

theorem x25 (a b : Option Addr) (ca cb : Nat) (l : List Plc) (w : World) (ha : Rd w a (pcs l)) (hb : Rd w b (pcs l)) (hm : l.length ≤ 17592186043904) :
    CallsTo Try.prog 25 [.slice a l.length ca, .slice b l.length cb] w fun v w' => v = .bool true ∧ Grew w w' := by
  have h := m25 a b ca cb l l w ha hb hm
  rw [decide_eq_true rfl] at h
  exact h
end Go.Proofs.Ytgblmkpfkcibiaa

namespace Go.Proofs.Ytgblmkpfkcibiaa
open Go.Hb
attribute [local irreducible] LR CW At Ev thn blk finK noG again CallsTo DW QL dnext TW DP gpost
set_option maxRecDepth 100000

section
variable {P : Program} {C : World → Prop} {f : Frm} {T T' T'' : TypeId} {x y : Operand} {k : IntKind} {a b : Int}
end
end Go.Proofs.Ytgblmkpfkcibiaa

namespace Go.Hb
set_option linter.unusedSimpArgs false
set_option linter.unusedVariables false

structure Gst where
  a : Option Addr
  b : Nat
  c : Nat
  e : Nat
abbrev Gh := Nat → Gst
def gset (g : Gh) (t : Nat) (x : Gst) : Gh := fun s => bif Nat.beq s t then x else g s
theorem gset_ne (g : Gh) {t s : Nat} (x : Gst) (h : s ≠ t) : gset g t x s = g s := by
  unfold gset
  cases hb : Nat.beq s t with
  | true => exact absurd (Nat.eq_of_beq_eq_true hb) h
  | false => rfl
structure IT where
  i : Nat
  d : Nat
  loc : List Nat
  val : Gh → Value
  A : Gh → List Asrt
def depF (g : Gh) (f : Frm) : List IT → Frm
  | [] => f
  | it :: r => upd (depF g f r) it.d (it.val g)
def depA (g : Gh) : List IT → List Asrt
  | [] => []
  | it :: r => it.A g ++ depA g r
def extF (f : Frm) : List (Nat × Value) → Frm
  | [] => f
  | q :: r => upd (extF f r) q.1 q.2
def ipost (w0 : World) (F : Nat → Prop) (it : IT) (g : Gh) (LA : List Asrt) (fr : Frm) : Post :=
  only fun f' w' => ∃ x, (∀ t, f' t = upd fr it.d (it.val (gset g it.d x)) t) ∧ St w0 F (it.A (gset g it.d x) ++ LA) w'
def ILoc (it : IT) : Prop := ∀ g g' : Gh, (∀ t ∈ it.loc, g t = g' t) → it.val g = it.val g' ∧ it.A g = it.A g'
def IOk (P : Program) (n : Nat) (ops : List Oper) (w0 : World) (F : Nat → Prop) (L : List Asrt) (ext : List (Nat × Value)) (it : IT) (D : List IT) : Prop :=
  ∃ o, ops[it.i]? = some o ∧ ∀ (g : Gh) (h : Frm) (R LA : List Asrt), LA = depA g D ++ (L ++ R) →
    LR false P n ops [o] (ipost w0 F it g LA (depF g (extF h ext) D)) (depF g (extF h ext) D) (St w0 F LA)
def hard (ops : List Oper) (j : Nat) : List Nat := match ops[j]? with
  | some o => (o.after.toList.filter (Region.binds .any)).map (·.on)
  | none => []
def depsOf (Φ : List (IT × List Nat)) (ks : List Nat) : List IT := ks.map fun k => (Φ.getD k (⟨0, 0, [], fun _ => undef, fun _ => []⟩, [])).1
def AllOk (P : Program) (n : Nat) (ops : List Oper) (w0 : World) (F : Nat → Prop) (L : List Asrt) (ext : List (Nat × Value)) (Φ : List (IT × List Nat)) : List (IT × List Nat) → Prop
  | [] => True
  | p :: r => (ILoc p.1 ∧ IOk P n ops w0 F L ext p.1 (depsOf Φ p.2)) ∧ AllOk P n ops w0 F L ext Φ r
abbrev INum := Nat × Nat × List Nat × List Nat
def numsOf (Φ : List (IT × List Nat)) : List INum := Φ.map fun p => (p.1.i, p.1.d, p.1.loc, p.2)
def crowdB (ops : List Oper) (done : List Nat) (ex : List Nat) (N : List INum) : Bool :=
  decide (done ++ N.map (·.1)).Nodup && decide (N.map (·.2.1)).Nodup && Nat.beq ops.length (done.length + N.length) && ((List.range ops.length).all fun j => (done ++ N.map (·.1)).contains j) &&
  ((List.range ops.length).all fun j => (hard ops j).all fun k => Nat.blt k j) && (ex.all fun s => !(N.map (·.2.1)).contains s) &&
  (N.all fun x => decide x.2.2.2.Nodup && x.2.2.2.all (fun k => Nat.blt k N.length && (hard ops x.1).contains (N.getD k (0, 0, [], [])).1) &&
    x.2.2.1.all (fun t => Nat.beq t x.2.1 || x.2.2.2.any fun k => Nat.beq t (N.getD k (0, 0, [], [])).2.1 || (N.getD k (0, 0, [], [])).2.2.1.contains t))

def regOf : Code → Nat → List Oper
  | .region id ops _, k => bif Nat.beq id k then ops.toList else []
  | .seq a b, k => regOf a k ++ regOf b k
  | .cond _ a b, k => regOf a k ++ regOf b k
  | .block _ c, k => regOf c k
  | .loop c, k => regOf c k
  | .scope c, k => regOf c k
  | _, _ => []
theorem At.item {w0 : World} {F : Nat → Prop} {it : IT} {g : Gh} {LA : List Asrt} {fr f' : Frm} {C : World → Prop} (x : Gst) (hf : f' = upd fr it.d (it.val (gset g it.d x))) (hC : ∀ w, C w → St w0 F (it.A (gset g it.d x) ++ LA) w) : At (ipost w0 F it g LA fr) .normal f' C :=
  fun w hw => ⟨rfl, x, fun t => by rw [hf], hC w hw⟩
section
variable {P : Program} {n : Nat} {ops : List Oper} {Q : Post} {f : Frm} {S : World → Prop} {w0 : World} {F : Nat → Prop} {L : List Asrt} {done : List Nat} {ext : List (Nat × Value)} {Φ : List (IT × List Nat)}

theorem AllOk.get : ∀ {Ψ : List (IT × List Nat)}, AllOk P n ops w0 F L ext Φ Ψ → ∀ p ∈ Ψ, ILoc p.1 ∧ IOk P n ops w0 F L ext p.1 (depsOf Φ p.2)
  | q :: r, h, p, hp => by
    rcases List.mem_cons.1 hp with rfl | hp
    · exact h.1
    · exact AllOk.get h.2 p hp
theorem depF_self {g : Gh} {h : Frm} : ∀ {D : List IT}, (∀ q ∈ D, h q.d = q.val g) → depF g h D = h
  | [], _ => rfl
  | q :: r, hh => by
    have ih := depF_self (g := g) (h := h) (D := r) fun x hx => hh x (List.mem_cons_of_mem _ hx)
    funext t
    show upd (depF g h r) q.d (q.val g) t = h t
    rw [ih]
    by_cases e : t = q.d
    · subst e; rw [upd_same]; exact (hh q List.mem_cons_self).symm
    · rw [upd_ne _ _ _ _ e]
theorem extF_self {h : Frm} : ∀ {ext : List (Nat × Value)}, (∀ q ∈ ext, h q.1 = q.2) → extF h ext = h
  | [], _ => rfl
  | q :: r, hh => by
    have ih := extF_self (h := h) (ext := r) fun x hx => hh x (List.mem_cons_of_mem _ hx)
    funext t
    show upd (extF h r) q.1 q.2 t = h t
    rw [ih]
    by_cases e : t = q.1
    · subst e; rw [upd_same]; exact (hh q List.mem_cons_self).symm
    · rw [upd_ne _ _ _ _ e]
theorem depF_off {g : Gh} {h : Frm} {t : Nat} : ∀ {D : List IT}, t ∉ D.map IT.d → depF g h D t = h t
  | [], _ => rfl
  | q :: r, hh => by
    simp only [List.map_cons, List.mem_cons, not_or] at hh
    show upd _ _ _ t = _
    rw [upd_ne _ _ _ _ hh.1]
    exact depF_off hh.2
theorem depF_at {g : Gh} {h : Frm} {q : IT} : ∀ {D : List IT}, (D.map IT.d).Nodup → q ∈ D → depF g h D q.d = q.val g
  | p :: r, hn, hq => by
    rw [List.map_cons, List.nodup_cons] at hn
    show upd _ _ _ q.d = _
    rcases List.mem_cons.1 hq with rfl | hq
    · rw [upd_same]
    · have : q.d ≠ p.d := fun e => hn.1 (e ▸ List.mem_map.2 ⟨q, hq, rfl⟩)
      rw [upd_ne _ _ _ _ this]
      exact depF_at hn.2 hq
theorem depA_perm {g : Gh} {D E : List IT} (h : D.Perm E) : (depA g D).Perm (depA g E) := by
  induction h with
  | nil => exact List.Perm.refl _
  | cons x _ ih => exact ih.append_left _
  | swap x y l =>
    show (y.A g ++ (x.A g ++ depA g l)).Perm (x.A g ++ (y.A g ++ depA g l))
    rw [← List.append_assoc, ← List.append_assoc]
    exact List.perm_append_comm.append_right _
  | trans _ _ h1 h2 => exact h1.trans h2
theorem depA_append {g : Gh} : ∀ (D E : List IT), depA g (D ++ E) = depA g D ++ depA g E
  | [], E => rfl
  | q :: r, E => by
    show q.A g ++ depA g (r ++ E) = q.A g ++ depA g r ++ depA g E
    rw [depA_append r E, List.append_assoc]
theorem depA_same {g g' : Gh} : ∀ {D : List IT}, (∀ q ∈ D, q.A g = q.A g') → depA g D = depA g' D
  | [], _ => rfl
  | q :: r, h => by
    show q.A g ++ depA g r = q.A g' ++ depA g' r
    rw [h q List.mem_cons_self, depA_same fun x hx => h x (List.mem_cons_of_mem _ hx)]
theorem take_out : ∀ {D E : List IT}, (D.map IT.i).Nodup → (∀ q ∈ D, q ∈ E) → ∃ E', E.Perm (D ++ E')
  | [], E, _, _ => ⟨E, List.Perm.refl _⟩
  | q :: r, E, hn, hs => by
    rw [List.map_cons, List.nodup_cons] at hn
    obtain ⟨s, t, rfl⟩ := List.append_of_mem (hs q List.mem_cons_self)
    have hp : (s ++ q :: t).Perm (q :: (s ++ t)) := List.perm_middle
    obtain ⟨E', he⟩ := take_out (D := r) (E := s ++ t) hn.2 (fun x hx => by
      have h1 := hp.mem_iff.1 (hs x (List.mem_cons_of_mem _ hx))
      rcases List.mem_cons.1 h1 with rfl | h1
      · exact (hn.1 (List.mem_map.2 ⟨x, hx, rfl⟩)).elim
      · exact h1)
    exact ⟨E', hp.trans (he.cons q)⟩
theorem inj_on {α β : Type} {m : α → β} : ∀ {l : List α}, (l.map m).Nodup → ∀ {x y : α}, x ∈ l → y ∈ l → m x = m y → x = y
  | z :: r, hn, x, y, hx, hy, e => by
    rw [List.map_cons, List.nodup_cons] at hn
    rcases List.mem_cons.1 hx with h1 | h1
    · subst h1
      rcases List.mem_cons.1 hy with h2 | h2
      · exact h2.symm
      · exact (hn.1 (List.mem_map.2 ⟨y, h2, e.symm⟩)).elim
    · rcases List.mem_cons.1 hy with h2 | h2
      · subst h2
        exact (hn.1 (List.mem_map.2 ⟨x, h1, e⟩)).elim
      · exact inj_on hn.2 h1 h2 e

structure CrowdOk (ops : List Oper) (done ex : List Nat) (Φ : List (IT × List Nat)) : Prop where
  nd : (done ++ (Φ.map Prod.fst).map IT.i).Nodup
  dd : ((Φ.map Prod.fst).map IT.d).Nodup
  len : ops.length = done.length + Φ.length
  all : ∀ j, j < ops.length → j ∈ done ++ (Φ.map Prod.fst).map IT.i
  low : ∀ j, j < ops.length → ∀ k ∈ hard ops j, k < j
  ex : ∀ s ∈ ex, s ∉ (Φ.map Prod.fst).map IT.d
  dn : ∀ p ∈ Φ, ((depsOf Φ p.2).map IT.i).Nodup
  din : ∀ p ∈ Φ, ∀ q ∈ depsOf Φ p.2, q ∈ Φ.map Prod.fst
  dh : ∀ p ∈ Φ, ∀ q ∈ depsOf Φ p.2, q.i ∈ hard ops p.1.i
  loc : ∀ p ∈ Φ, ∀ t ∈ p.1.loc, t = p.1.d ∨ ∃ q ∈ depsOf Φ p.2, t = q.d ∨ t ∈ q.loc
theorem getD_nums {Φ : List (IT × List Nat)} {k : Nat} (h : k < Φ.length) : (numsOf Φ).getD k (0, 0, [], []) = ((Φ.getD k (⟨0, 0, [], fun _ => undef, fun _ => []⟩, [])).1.i, (Φ.getD k (⟨0, 0, [], fun _ => undef, fun _ => []⟩, [])).1.d, (Φ.getD k (⟨0, 0, [], fun _ => undef, fun _ => []⟩, [])).1.loc, (Φ.getD k (⟨0, 0, [], fun _ => undef, fun _ => []⟩, [])).2) := by
  unfold numsOf
  simp [List.getD_eq_getElem?_getD, h]
theorem nodup_map_on {α β : Type} {m : α → β} : ∀ {l : List α}, l.Nodup → (∀ x ∈ l, ∀ y ∈ l, m x = m y → x = y) → (l.map m).Nodup
  | [], _, _ => List.nodup_nil
  | x :: r, hn, hi => by
    rw [List.nodup_cons] at hn
    rw [List.map_cons, List.nodup_cons]
    refine ⟨fun h => ?_, nodup_map_on hn.2 fun a ha b hb => hi a (List.mem_cons_of_mem _ ha) b (List.mem_cons_of_mem _ hb)⟩
    obtain ⟨y, hy, e⟩ := List.mem_map.1 h
    exact hn.1 (hi y (List.mem_cons_of_mem _ hy) x List.mem_cons_self e ▸ hy)
theorem crowd_ok {N : List INum} {ex : List Nat} (hN : numsOf Φ = N) (h : crowdB ops done ex N = true) : CrowdOk ops done ex Φ := by
  subst hN
  have e1 : (numsOf Φ).map (·.1) = (Φ.map Prod.fst).map IT.i := by unfold numsOf; simp [List.map_map, Function.comp_def]
  have e2 : (numsOf Φ).map (·.2.1) = (Φ.map Prod.fst).map IT.d := by unfold numsOf; simp [List.map_map, Function.comp_def]
  have e3 : (numsOf Φ).length = Φ.length := by unfold numsOf; simp
  unfold crowdB at h
  rw [e1, e2, e3] at h
  simp only [Bool.and_eq_true, decide_eq_true_eq, List.all_eq_true, List.mem_range] at h
  obtain ⟨⟨⟨⟨⟨⟨h1, h2⟩, h3⟩, h4⟩, h5⟩, h6⟩, h7⟩ := h
  have key : ∀ p ∈ Φ, p.2.Nodup ∧ (∀ k ∈ p.2, k < Φ.length ∧ (hard ops p.1.i).contains (Φ.getD k (⟨0, 0, [], fun _ => undef, fun _ => []⟩, [])).1.i = true) ∧
      ∀ t ∈ p.1.loc, t = p.1.d ∨ ∃ k ∈ p.2, t = (Φ.getD k (⟨0, 0, [], fun _ => undef, fun _ => []⟩, [])).1.d ∨ t ∈ (Φ.getD k (⟨0, 0, [], fun _ => undef, fun _ => []⟩, [])).1.loc := by
    intro p hp
    have h8 := h7 (p.1.i, p.1.d, p.1.loc, p.2) (List.mem_map.2 ⟨p, hp, rfl⟩)
    obtain ⟨⟨a1, a2⟩, a3⟩ := h8
    have hb : ∀ k ∈ p.2, k < Φ.length := fun k hk => Nat.le_of_ble_eq_true (a2 k hk).1
    refine ⟨a1, fun k hk => ⟨hb k hk, ?_⟩, fun t ht => ?_⟩
    · have := (a2 k hk).2
      rw [getD_nums (hb k hk)] at this
      exact this
    · have := a3 t ht
      rw [Bool.or_eq_true] at this
      rcases this with h9 | h9
      · exact .inl (Nat.eq_of_beq_eq_true h9)
      · obtain ⟨k, hk, h9⟩ := List.any_eq_true.1 h9
        rw [getD_nums (hb k hk), Bool.or_eq_true] at h9
        refine .inr ⟨k, hk, ?_⟩
        rcases h9 with h9 | h9
        · exact .inl (Nat.eq_of_beq_eq_true h9)
        · exact .inr (by simpa using h9)
  have hmem : ∀ p ∈ Φ, ∀ k ∈ p.2, (Φ.getD k (⟨0, 0, [], fun _ => undef, fun _ => []⟩, [])) ∈ Φ := by
    intro p hp k hk
    have hk := ((key p hp).2.1 k hk).1
    rw [List.getD_eq_getElem?_getD, List.getElem?_eq_getElem hk]
    exact List.getElem_mem hk
  have hn : ((Φ.map Prod.fst).map IT.i).Nodup := (List.nodup_append.1 h1).2.1
  refine ⟨h1, h2, Nat.eq_of_beq_eq_true h3, fun j hj => by simpa using h4 j hj, fun j hj k hk => Nat.le_of_ble_eq_true (h5 j hj k hk), fun s hs hx => ?_, fun p hp => ?_, fun p hp q hq => ?_, fun p hp q hq => ?_, fun p hp t ht => ?_⟩
  · have h8 := h6 s hs
    have : ((Φ.map Prod.fst).map IT.d).contains s = true := List.elem_eq_true_of_mem hx
    rw [this] at h8
    cases h8
  · unfold depsOf
    rw [List.map_map]
    refine nodup_map_on (key p hp).1 fun k hk k' hk' e => ?_
    have hk1 := ((key p hp).2.1 k hk).1
    have hk2 := ((key p hp).2.1 k' hk').1
    simp only [Function.comp_def, List.getD_eq_getElem?_getD, List.getElem?_eq_getElem hk1, List.getElem?_eq_getElem hk2, Option.getD_some] at e
    rw [List.map_map] at hn
    have := List.pairwise_iff_getElem.1 hn
    rcases Nat.lt_trichotomy k k' with h | h | h
    · exact absurd (by simp only [List.getElem_map, Function.comp_def]; exact e) (this k k' (by simpa using hk1) (by simpa using hk2) h)
    · exact h
    · exact absurd (by simp only [List.getElem_map, Function.comp_def]; exact e.symm) (this k' k (by simpa using hk2) (by simpa using hk1) h)
  · obtain ⟨k, hk, rfl⟩ := List.mem_map.1 hq
    exact List.mem_map.2 ⟨_, hmem p hp k hk, rfl⟩
  · obtain ⟨k, hk, rfl⟩ := List.mem_map.1 hq
    simpa using ((key p hp).2.1 k hk).2
  · rcases (key p hp).2.2 t ht with h8 | ⟨k, hk, h8⟩
    · exact .inl h8
    · exact .inr ⟨_, List.mem_map.2 ⟨k, hk, rfl⟩, h8⟩
theorem hard_listed {j k : Nat} {l : List Nat} (h : j ∈ Region.ready .any ops.toArray (lst ops l)) (hk : k ∈ hard ops j) (hkl : k < ops.length) : k ∈ l := by
  obtain ⟨_, o, ho, ha⟩ := mem_ready.1 h
  have ho : ops[j]? = some o := by simpa using ho
  unfold hard at hk
  rw [ho] at hk
  obtain ⟨e, he, rfl⟩ := List.mem_map.1 hk
  rw [List.mem_filter] at he
  have := ha e (by simpa using he.1) he.2
  rw [lst_getD _ hkl] at this
  simpa using this
theorem ready_some {l : List Nat} (hlow : ∀ j, j < ops.length → ∀ k ∈ hard ops j, k < j) {j : Nat} (hj : j < ops.length) (hjl : j ∉ l) : Region.ready .any ops.toArray (lst ops l) ≠ [] := by
  induction j using Nat.strongRecOn with
  | _ j ih =>
    by_cases hx : ∃ k, k < j ∧ k ∉ l
    · obtain ⟨k, h1, h2⟩ := hx
      exact ih k h1 (by omega) h2
    · intro h0
      have hall : ∀ k, k < j → k ∈ l := fun k hk => Classical.byContradiction fun hn => hx ⟨k, hk, hn⟩
      have : j ∈ Region.ready .any ops.toArray (lst ops l) := by
        refine mem_ready.2 ⟨?_, ops[j], by simp [hj], fun e he hb => ?_⟩
        · rw [lst_getD _ hj]; simpa using hjl
        · have hk : e.on ∈ hard ops j := by
            unfold hard
            rw [List.getElem?_eq_getElem hj]
            exact List.mem_map.2 ⟨e, List.mem_filter.2 ⟨by simpa using he, hb⟩, rfl⟩
          have hlt := hlow j hj _ hk
          rw [lst_getD _ (by omega)]
          simpa using hall _ hlt
      rw [h0] at this
      cases this
theorem DW.crowd {N : List INum} (Φ : List (IT × List Nat)) (ext : List (Nat × Value)) (hN : numsOf Φ = N) (hB : crowdB ops done (ext.map Prod.fst) N = true) (hext : ∀ q ∈ ext, f q.1 = q.2)
    (hok : AllOk P n ops w0 F L ext Φ Φ) (hS : ∀ A w, St w0 F (A ++ L) w → S w)
    (h : ∀ g, DW P n ops Q (done ++ N.map (·.1)) S (depF g f (Φ.map Prod.fst)) (St w0 F (depA g (Φ.map Prod.fst) ++ L))) : DW P n ops Q done S f (St w0 F L) := by
  have hc := crowd_ok (ops := ops) (done := done) hN hB
  have eN : N.map (·.1) = (Φ.map Prod.fst).map IT.i := by rw [← hN]; unfold numsOf; simp [List.map_map, Function.comp_def]
  rw [eN] at h
  have hin : ((Φ.map Prod.fst).map IT.i).Nodup := (List.nodup_append.1 hc.nd).2.1
  suffices key : ∀ m (E : List IT) (g : Gh), m + E.length = Φ.length → (E.map IT.i).Nodup → (∀ it ∈ E, it ∈ Φ.map Prod.fst) → (∀ it ∈ E, ∀ t ∈ it.loc, t ∈ E.map IT.d) →
      ∀ w, St w0 F (depA g E ++ L) w → ∀ fr, (∀ it ∈ E, fr it.d = it.val g) → (∀ t, t ∉ E.map IT.d → fr t = f t) → ∀ a, Fits n a fr →
      wpAnyH P .any ops.toArray (lift n (only fun f w => Q .normal f w)) S (ops.length - (done.length + E.length)) (lst ops (done ++ E.map IT.i)) a w by
    intro w hw a ha
    have := key Φ.length [] (fun _ => ⟨none, 0, 0, 0⟩) rfl List.nodup_nil (fun _ h => by cases h) (fun _ h => by cases h) w hw f (fun _ h => by cases h) (fun _ _ => rfl) a ha
    simpa using this
  intro m
  induction m with
  | zero =>
    intro E g hm hnd hsub hcl w hw fr hfr hfo a ha
    obtain ⟨E', hp⟩ := take_out (D := E) (E := Φ.map Prod.fst) hnd hsub
    have hE' : E' = [] := by
      have := hp.length_eq
      simp only [List.length_map, List.length_append] at this
      exact List.eq_nil_of_length_eq_zero (by omega)
    rw [hE', List.append_nil] at hp
    have hf : fr = depF g f (Φ.map Prod.fst) := by
      funext t
      by_cases ht : t ∈ (Φ.map Prod.fst).map IT.d
      · obtain ⟨q, hq, rfl⟩ := List.mem_map.1 ht
        rw [depF_at hc.dd hq]
        exact hfr q (hp.mem_iff.1 hq)
      · rw [depF_off ht]
        exact hfo t fun hx => ht ((hp.map IT.d).mem_iff.2 hx)
    have h1 := h g w (hw.perm ((depA_perm hp.symm).append_right L)) a (hf ▸ ha)
    have e1 : lst ops (done ++ E.map IT.i) = lst ops (done ++ (Φ.map Prod.fst).map IT.i) := lst_perm ((hp.symm.map IT.i).append_left done)
    have e2 : ops.length - (done.length + E.length) = ops.length - (done ++ (Φ.map Prod.fst).map IT.i).length := by simp only [List.length_append, List.length_map]; omega
    rw [e1, e2]
    exact h1
  | succ m ih =>
    intro E g hm hnd hsub hcl w hw fr hfr hfo a ha
    have hlen := hc.len
    obtain ⟨fuel, hfuel⟩ : ∃ fuel, ops.length - (done.length + E.length) = fuel + 1 := ⟨ops.length - (done.length + E.length) - 1, by omega⟩
    rw [hfuel]
    have hmore : ∃ j, j < ops.length ∧ j ∉ done ++ E.map IT.i := by
      refine Classical.byContradiction fun hno => ?_
      have hall : ∀ j, j < ops.length → j ∈ done ++ E.map IT.i := fun j hj => Classical.byContradiction fun hn => hno ⟨j, hj, hn⟩
      have h1 : (List.range ops.length).length ≤ (done ++ E.map IT.i).length := by
        have hsp : ∀ (l r : List Nat), l.Nodup → (∀ x ∈ l, x ∈ r) → l.length ≤ r.length := by
          intro l
          induction l with
          | nil => intro r _ _; simp
          | cons x l ihl =>
            intro r hn hs
            rw [List.nodup_cons] at hn
            obtain ⟨s, t, rfl⟩ := List.append_of_mem (hs x List.mem_cons_self)
            have := ihl (s ++ t) hn.2 fun y hy => by
              have h2 := hs y (List.mem_cons_of_mem _ hy)
              simp only [List.mem_append, List.mem_cons] at h2 ⊢
              rcases h2 with h2 | rfl | h2
              · exact .inl h2
              · exact (hn.1 hy).elim
              · exact .inr h2
            simp only [List.length_cons, List.length_append] at this ⊢
            omega
        exact hsp _ _ List.nodup_range fun x hx => hall x (List.mem_range.1 hx)
      simp only [List.length_range, List.length_append, List.length_map] at h1
      omega
    obtain ⟨j0, hj0, hj0l⟩ := hmore
    refine ⟨fun h0 => (ready_some hc.low hj0 hj0l h0).elim, fun j hj => ?_⟩
    have hjn := ready_new hj
    have hjlt : j < ops.length := by
      obtain ⟨_, o, ho, _⟩ := mem_ready.1 hj
      simpa using (Array.getElem?_eq_some_iff.1 ho).1
    have hjin : j ∈ (Φ.map Prod.fst).map IT.i := by
      rcases List.mem_append.1 (hc.all j hjlt) with h1 | h1
      · exact (hjn (List.mem_append_left _ h1)).elim
      · exact h1
    obtain ⟨it, hit, rfl⟩ := List.mem_map.1 hjin
    obtain ⟨p, hp, rfl⟩ := List.mem_map.1 hit
    have hnE : p.1 ∉ E := fun hx => hjn (List.mem_append_right _ (List.mem_map.2 ⟨_, hx, rfl⟩))
    have hdE : ∀ q ∈ depsOf Φ p.2, q ∈ E := by
      intro q hq
      have hqΦ := hc.din p hp q hq
      have hqi : q.i ∈ (Φ.map Prod.fst).map IT.i := List.mem_map.2 ⟨q, hqΦ, rfl⟩
      have hqh := hc.dh p hp q hq
      have hql : q.i ∈ done ++ E.map IT.i := hard_listed hj hqh (by have := hc.low _ hjlt _ hqh; omega)
      rcases List.mem_append.1 hql with h1 | h1
      · exact ((List.nodup_append.1 hc.nd).2.2 q.i h1 q.i hqi rfl).elim
      · obtain ⟨q', hq', e⟩ := List.mem_map.1 h1
        have := inj_on hin (hsub q' hq') hqΦ e
        exact this ▸ hq'
    obtain ⟨hloc, o, ho, hLR⟩ := hok.get p hp
    have hdd : p.1.d ∉ E.map IT.d := by
      intro hx
      obtain ⟨q, hq, e⟩ := List.mem_map.1 hx
      exact hnE (inj_on hc.dd (hsub q hq) hit e ▸ hq)
    obtain ⟨E', hpe⟩ := take_out (D := depsOf Φ p.2) (E := E) (hc.dn p hp) hdE
    have hfrE : depF g (extF fr ext) (depsOf Φ p.2) = fr := by
      have h1 : extF fr ext = fr := extF_self fun q hq => by
        rw [hfo q.1 fun hx => ?_]
        · exact hext q hq
        · obtain ⟨z, hz, e⟩ := List.mem_map.1 hx
          exact hc.ex q.1 (List.mem_map.2 ⟨q, hq, rfl⟩) (e ▸ List.mem_map.2 ⟨z, hsub z hz, rfl⟩)
      rw [h1]
      exact depF_self fun q hq => hfr q (hdE q hq)
    have h2 := hLR g fr (depA g E') _ rfl
    rw [hfrE] at h2
    have hwp : St w0 F (depA g (depsOf Φ p.2) ++ (L ++ depA g E')) w := by
      refine hw.perm ?_
      refine ((depA_perm hpe).append_right L).trans ?_
      rw [depA_append, List.append_assoc]
      exact (List.perm_append_comm).append_left _
    refine wpOp_of_LR ho ha hwp h2 fun a' f' w' hf' ⟨x, h3, h4⟩ => ?_
    have hgE : ∀ q ∈ E, q.val (gset g p.1.d x) = q.val g ∧ q.A (gset g p.1.d x) = q.A g := by
      intro q hq
      obtain ⟨pq, hpq, rfl⟩ := List.mem_map.1 (hsub q hq)
      refine (hok.get pq hpq).1 _ _ fun t ht => ?_
      exact gset_ne g x fun e => hdd (e ▸ hcl _ hq t ht)
    have hw' : St w0 F (depA (gset g p.1.d x) (p.1 :: E) ++ L) w' := by
      refine h4.perm ?_
      show (p.1.A (gset g p.1.d x) ++ (depA g (depsOf Φ p.2) ++ (L ++ depA g E'))).Perm (p.1.A (gset g p.1.d x) ++ depA (gset g p.1.d x) E ++ L)
      rw [depA_same fun q hq => (hgE q hq).2, List.append_assoc]
      refine List.Perm.append_left _ ?_
      refine List.Perm.symm ?_
      refine ((depA_perm hpe).append_right L).trans ?_
      rw [depA_append, List.append_assoc]
      exact (List.perm_append_comm).append_left _
    refine ⟨hS _ _ hw', ?_⟩
    have h5 := ih (p.1 :: E) (gset g p.1.d x) (by simp only [List.length_cons]; omega) (by
        rw [List.map_cons, List.nodup_cons]
        exact ⟨fun hx => hjn (List.mem_append_right _ hx), hnd⟩) (fun q hq => by
        rcases List.mem_cons.1 hq with rfl | hq
        · exact hit
        · exact hsub q hq) (fun q hq t ht => by
        rw [List.map_cons]
        rcases List.mem_cons.1 hq with rfl | hq
        · rcases hc.loc p hp t ht with rfl | ⟨z, hz, h6⟩
          · exact List.mem_cons_self
          · refine List.mem_cons_of_mem _ ?_
            rcases h6 with rfl | h6
            · exact List.mem_map.2 ⟨z, hdE z hz, rfl⟩
            · exact hcl z (hdE z hz) t h6
        · exact List.mem_cons_of_mem _ (hcl q hq t ht)) w' hw' f' (fun q hq => by
        rw [h3]
        rcases List.mem_cons.1 hq with rfl | hq
        · rw [upd_same]
        · have : q.d ≠ p.1.d := fun e => hdd (e ▸ List.mem_map.2 ⟨q, hq, rfl⟩)
          rw [upd_ne _ _ _ _ this, hfr q hq, (hgE q hq).1]) (fun t ht => by
        rw [List.map_cons, List.mem_cons, not_or] at ht
        rw [h3, upd_ne _ _ _ _ ht.1]
        exact hfo t ht.2) a' hf'
    have e1 : lst ops (done ++ (p.1 :: E).map IT.i) = (lst ops (done ++ E.map IT.i)).setIfInBounds p.1.i true := by
      rw [← lst_snoc]
      refine lst_perm ?_
      rw [List.append_assoc]
      exact (List.perm_append_comm (l₁ := [p.1.i])).append_left done
    have e2 : ops.length - (done.length + (p.1 :: E).length) = fuel := by simp only [List.length_cons]; omega
    rw [e1, e2] at h5
    exact h5
end
end Go.Hb

namespace Go.Proofs.Ytgblmkpfkcibiaa
open Go.Hb
attribute [local irreducible] LR CW At Ev thn blk finK noG again CallsTo DW QL dnext TW DP gpost
set_option maxRecDepth 100000

theorem gv_one {w : World} {b : Nat} {G : List Gat} (h : Rd w (some ⟨b, 0, none⟩) (gv G)) (k : Nat) (hk : k < G.length) {q : Nat} (hq : q = k * 3) : ∀ j v, (Gat.cells (G[k]'hk))[j]? = some v → w.cell? ((⟨b, q, none⟩ : Addr).add j) = some v := by
  intro j v hj
  rw [addr_add]
  exact gat_cell h hk j hj (by omega)
noncomputable def k92_ops : List Oper := regOf (Try.f9.body.getD .skip) 2
noncomputable def k92_22 (b1 : Nat) (b2 : Nat) : IT := ⟨0, 22, [], fun g => .agg ([.slice none 0 0, .slice none 0 0] : List Value).toArray, fun g => []⟩
theorem k92_22_ok (w0 : World) (b1 : Nat) (b2 : Nat) : ILoc (k92_22 b1 b2) ∧ IOk Try.prog 359 k92_ops w0 NoF [both (thr1 b1) (thr2 b2)] [(1, .slice (some ⟨b2, 0, none⟩) 2 2)] (k92_22 b1 b2) [] := by
  refine ⟨fun g g' hl => ⟨?_, ?_⟩, _, rfl, fun g h R LA e => ?_⟩
  · simp only [k92_22]
  · simp only [k92_22]
  subst e
  dsimp only [depF, depA, extF, List.cons_append, List.nil_append, List.append_eq]
  repeat'(first|refine kv' ?_|apply jJ|refine jE' ?_|refine jp' ?_|(apply jc;kernel_rfl)|refine kg' ?_|refine kG' ?_|refine kB' fun _=>?_|refine kA' fun _=>?_|refine kK' fun _=>?_|refine kU' ?_|((first|refine kR' ?_ ?_|refine kQ' ?_ ?_);all_goals(intro hc;try simp only[hcs]at hc;try(exfalso;first|contradiction|omega))))
  exact At.item ⟨none, 0, 0, 0⟩ rfl (fun w h => h)
noncomputable def k92_23 (b1 : Nat) (b2 : Nat) : IT := ⟨1, 23, [23], fun g => .slice (some ⟨(g 23).b, 0, none⟩) 3 3, fun g => [.own (g 23).b (.cells ([.int .i64 14, .int .i64 56, .int .i64 96] : List Value).toArray 3 (0, 0))]⟩
theorem k92_23_ok (w0 : World) (b1 : Nat) (b2 : Nat) : ILoc (k92_23 b1 b2) ∧ IOk Try.prog 359 k92_ops w0 NoF [both (thr1 b1) (thr2 b2)] [(1, .slice (some ⟨b2, 0, none⟩) 2 2)] (k92_23 b1 b2) [] := by
  refine ⟨fun g g' hl => ⟨?_, ?_⟩, _, rfl, fun g h R LA e => ?_⟩
  · simp only [k92_23, hl 23 (show 23 ∈ [23] by decide)]
  · simp only [k92_23, hl 23 (show 23 ∈ [23] by decide)]
  subst e
  dsimp only [depF, depA, extF, List.cons_append, List.nil_append, List.append_eq]
  repeat'(first|(refine kK' (T := 22) fun bk => ?_)|refine kv' ?_|apply jJ|refine jE' ?_|refine jp' ?_|(apply jc;kernel_rfl)|refine kg' ?_|refine kG' ?_|refine kB' fun _=>?_|refine kA' fun _=>?_|refine kK' fun _=>?_|refine kU' ?_|((first|refine kR' ?_ ?_|refine kQ' ?_ ?_);all_goals(intro hc;try simp only[hcs]at hc;try(exfalso;first|contradiction|omega))))
  exact At.item ⟨none, bk, 0, 0⟩ rfl (fun w h => h)
noncomputable def k92_24 (b1 : Nat) (b2 : Nat) : IT := ⟨2, 24, [], fun g => .slice (some ⟨b2, 0, none⟩) 2 2, fun g => []⟩
theorem k92_24_ok (w0 : World) (b1 : Nat) (b2 : Nat) : ILoc (k92_24 b1 b2) ∧ IOk Try.prog 359 k92_ops w0 NoF [both (thr1 b1) (thr2 b2)] [(1, .slice (some ⟨b2, 0, none⟩) 2 2)] (k92_24 b1 b2) [] := by
  refine ⟨fun g g' hl => ⟨?_, ?_⟩, _, rfl, fun g h R LA e => ?_⟩
  · simp only [k92_24]
  · simp only [k92_24]
  subst e
  dsimp only [depF, depA, extF, List.cons_append, List.nil_append, List.append_eq]
  repeat'(first|refine kv' ?_|apply jJ|refine jE' ?_|refine jp' ?_|(apply jc;kernel_rfl)|refine kg' ?_|refine kG' ?_|refine kB' fun _=>?_|refine kA' fun _=>?_|refine kK' fun _=>?_|refine kU' ?_|((first|refine kR' ?_ ?_|refine kQ' ?_ ?_);all_goals(intro hc;try simp only[hcs]at hc;try(exfalso;first|contradiction|omega))))
  exact At.item ⟨none, 0, 0, 0⟩ rfl (fun w h => h)
noncomputable def k92_25 (b1 : Nat) (b2 : Nat) : IT := ⟨3, 25, [], fun g => .slice (some ⟨b2, 3, none⟩) 1 1, fun g => []⟩
theorem k92_25_ok (w0 : World) (b1 : Nat) (b2 : Nat) : ILoc (k92_25 b1 b2) ∧ IOk Try.prog 359 k92_ops w0 NoF [both (thr1 b1) (thr2 b2)] [(1, .slice (some ⟨b2, 0, none⟩) 2 2)] (k92_25 b1 b2) [k92_24 b1 b2] := by
  refine ⟨fun g g' hl => ⟨?_, ?_⟩, _, rfl, fun g h R LA e => ?_⟩
  · simp only [k92_25]
  · simp only [k92_25]
  subst e
  dsimp only [depF, depA, extF, k92_24, List.cons_append, List.nil_append, List.append_eq]
  repeat'(first|(apply LR.ev; (· apply Ev_lo; (· exact rfl); (· exact rfl); (· decide); (· decide); (· decide)); (· exact rfl))|refine kv' ?_|apply jJ|refine jE' ?_|refine jp' ?_|(apply jc;kernel_rfl)|refine kg' ?_|refine kG' ?_|refine kB' fun _=>?_|refine kA' fun _=>?_|refine kK' fun _=>?_|refine kU' ?_|((first|refine kR' ?_ ?_|refine kQ' ?_ ?_);all_goals(intro hc;try simp only[hcs]at hc;try(exfalso;first|contradiction|omega))))
  exact At.item ⟨none, 0, 0, 0⟩ rfl (fun w h => h)
noncomputable def k92_26 (b1 : Nat) (b2 : Nat) : IT := ⟨4, 26, [23], fun g => .agg ([.slice (some ⟨(g 23).b, 0, none⟩) 3 3, .slice (some ⟨b2, 3, none⟩) 1 1] : List Value).toArray, fun g => []⟩
theorem k92_26_ok (w0 : World) (b1 : Nat) (b2 : Nat) : ILoc (k92_26 b1 b2) ∧ IOk Try.prog 359 k92_ops w0 NoF [both (thr1 b1) (thr2 b2)] [(1, .slice (some ⟨b2, 0, none⟩) 2 2)] (k92_26 b1 b2) [k92_23 b1 b2, k92_25 b1 b2] := by
  refine ⟨fun g g' hl => ⟨?_, ?_⟩, _, rfl, fun g h R LA e => ?_⟩
  · simp only [k92_26, hl 23 (show 23 ∈ [23] by decide)]
  · simp only [k92_26, hl 23 (show 23 ∈ [23] by decide)]
  subst e
  dsimp only [depF, depA, extF, k92_23, k92_25, List.cons_append, List.nil_append, List.append_eq]
  repeat'(first|refine kv' ?_|apply jJ|refine jE' ?_|refine jp' ?_|(apply jc;kernel_rfl)|refine kg' ?_|refine kG' ?_|refine kB' fun _=>?_|refine kA' fun _=>?_|refine kK' fun _=>?_|refine kU' ?_|((first|refine kR' ?_ ?_|refine kQ' ?_ ?_);all_goals(intro hc;try simp only[hcs]at hc;try(exfalso;first|contradiction|omega))))
  exact At.item ⟨none, 0, 0, 0⟩ rfl (fun w h => h)
noncomputable def k92_27 (b1 : Nat) (b2 : Nat) : IT := ⟨5, 27, [27], fun g => .slice (some ⟨(g 27).b, 0, none⟩) 1 1, fun g => [.own (g 27).b (.cells ([.int .i64 0] : List Value).toArray 3 (0, 0))]⟩
theorem k92_27_ok (w0 : World) (b1 : Nat) (b2 : Nat) : ILoc (k92_27 b1 b2) ∧ IOk Try.prog 359 k92_ops w0 NoF [both (thr1 b1) (thr2 b2)] [(1, .slice (some ⟨b2, 0, none⟩) 2 2)] (k92_27 b1 b2) [] := by
  refine ⟨fun g g' hl => ⟨?_, ?_⟩, _, rfl, fun g h R LA e => ?_⟩
  · simp only [k92_27, hl 27 (show 27 ∈ [27] by decide)]
  · simp only [k92_27, hl 27 (show 27 ∈ [27] by decide)]
  subst e
  dsimp only [depF, depA, extF, List.cons_append, List.nil_append, List.append_eq]
  repeat'(first|(refine kK' (T := 22) fun bk => ?_)|refine kv' ?_|apply jJ|refine jE' ?_|refine jp' ?_|(apply jc;kernel_rfl)|refine kg' ?_|refine kG' ?_|refine kB' fun _=>?_|refine kA' fun _=>?_|refine kK' fun _=>?_|refine kU' ?_|((first|refine kR' ?_ ?_|refine kQ' ?_ ?_);all_goals(intro hc;try simp only[hcs]at hc;try(exfalso;first|contradiction|omega))))
  exact At.item ⟨none, bk, 0, 0⟩ rfl (fun w h => h)
noncomputable def k92_28 (b1 : Nat) (b2 : Nat) : IT := ⟨6, 28, [27], fun g => .agg ([.slice (some ⟨(g 27).b, 0, none⟩) 1 1, .slice none 0 0] : List Value).toArray, fun g => []⟩
theorem k92_28_ok (w0 : World) (b1 : Nat) (b2 : Nat) : ILoc (k92_28 b1 b2) ∧ IOk Try.prog 359 k92_ops w0 NoF [both (thr1 b1) (thr2 b2)] [(1, .slice (some ⟨b2, 0, none⟩) 2 2)] (k92_28 b1 b2) [k92_27 b1 b2] := by
  refine ⟨fun g g' hl => ⟨?_, ?_⟩, _, rfl, fun g h R LA e => ?_⟩
  · simp only [k92_28, hl 27 (show 27 ∈ [27] by decide)]
  · simp only [k92_28, hl 27 (show 27 ∈ [27] by decide)]
  subst e
  dsimp only [depF, depA, extF, k92_27, List.cons_append, List.nil_append, List.append_eq]
  repeat'(first|refine kv' ?_|apply jJ|refine jE' ?_|refine jp' ?_|(apply jc;kernel_rfl)|refine kg' ?_|refine kG' ?_|refine kB' fun _=>?_|refine kA' fun _=>?_|refine kK' fun _=>?_|refine kU' ?_|((first|refine kR' ?_ ?_|refine kQ' ?_ ?_);all_goals(intro hc;try simp only[hcs]at hc;try(exfalso;first|contradiction|omega))))
  exact At.item ⟨none, 0, 0, 0⟩ rfl (fun w h => h)
noncomputable def k92_29 (b1 : Nat) (b2 : Nat) : IT := ⟨7, 29, [29], fun g => .slice (some ⟨(g 29).b, 0, none⟩) 1 1, fun g => [.own (g 29).b (.cells ([.int .i64 1] : List Value).toArray 3 (0, 0))]⟩
theorem k92_29_ok (w0 : World) (b1 : Nat) (b2 : Nat) : ILoc (k92_29 b1 b2) ∧ IOk Try.prog 359 k92_ops w0 NoF [both (thr1 b1) (thr2 b2)] [(1, .slice (some ⟨b2, 0, none⟩) 2 2)] (k92_29 b1 b2) [] := by
  refine ⟨fun g g' hl => ⟨?_, ?_⟩, _, rfl, fun g h R LA e => ?_⟩
  · simp only [k92_29, hl 29 (show 29 ∈ [29] by decide)]
  · simp only [k92_29, hl 29 (show 29 ∈ [29] by decide)]
  subst e
  dsimp only [depF, depA, extF, List.cons_append, List.nil_append, List.append_eq]
  repeat'(first|(refine kK' (T := 22) fun bk => ?_)|refine kv' ?_|apply jJ|refine jE' ?_|refine jp' ?_|(apply jc;kernel_rfl)|refine kg' ?_|refine kG' ?_|refine kB' fun _=>?_|refine kA' fun _=>?_|refine kK' fun _=>?_|refine kU' ?_|((first|refine kR' ?_ ?_|refine kQ' ?_ ?_);all_goals(intro hc;try simp only[hcs]at hc;try(exfalso;first|contradiction|omega))))
  exact At.item ⟨none, bk, 0, 0⟩ rfl (fun w h => h)
noncomputable def k92_30 (b1 : Nat) (b2 : Nat) : IT := ⟨8, 30, [29], fun g => .agg ([.slice (some ⟨(g 29).b, 0, none⟩) 1 1, .slice none 0 0] : List Value).toArray, fun g => []⟩
theorem k92_30_ok (w0 : World) (b1 : Nat) (b2 : Nat) : ILoc (k92_30 b1 b2) ∧ IOk Try.prog 359 k92_ops w0 NoF [both (thr1 b1) (thr2 b2)] [(1, .slice (some ⟨b2, 0, none⟩) 2 2)] (k92_30 b1 b2) [k92_29 b1 b2] := by
  refine ⟨fun g g' hl => ⟨?_, ?_⟩, _, rfl, fun g h R LA e => ?_⟩
  · simp only [k92_30, hl 29 (show 29 ∈ [29] by decide)]
  · simp only [k92_30, hl 29 (show 29 ∈ [29] by decide)]
  subst e
  dsimp only [depF, depA, extF, k92_29, List.cons_append, List.nil_append, List.append_eq]
  repeat'(first|refine kv' ?_|apply jJ|refine jE' ?_|refine jp' ?_|(apply jc;kernel_rfl)|refine kg' ?_|refine kG' ?_|refine kB' fun _=>?_|refine kA' fun _=>?_|refine kK' fun _=>?_|refine kU' ?_|((first|refine kR' ?_ ?_|refine kQ' ?_ ?_);all_goals(intro hc;try simp only[hcs]at hc;try(exfalso;first|contradiction|omega))))
  exact At.item ⟨none, 0, 0, 0⟩ rfl (fun w h => h)
noncomputable def k92_31 (b1 : Nat) (b2 : Nat) : IT := ⟨9, 31, [31], fun g => .slice (some ⟨(g 31).b, 0, none⟩) 1 1, fun g => [.own (g 31).b (.cells ([.int .i64 512] : List Value).toArray 3 (0, 0))]⟩
theorem k92_31_ok (w0 : World) (b1 : Nat) (b2 : Nat) : ILoc (k92_31 b1 b2) ∧ IOk Try.prog 359 k92_ops w0 NoF [both (thr1 b1) (thr2 b2)] [(1, .slice (some ⟨b2, 0, none⟩) 2 2)] (k92_31 b1 b2) [] := by
  refine ⟨fun g g' hl => ⟨?_, ?_⟩, _, rfl, fun g h R LA e => ?_⟩
  · simp only [k92_31, hl 31 (show 31 ∈ [31] by decide)]
  · simp only [k92_31, hl 31 (show 31 ∈ [31] by decide)]
  subst e
  dsimp only [depF, depA, extF, List.cons_append, List.nil_append, List.append_eq]
  repeat'(first|(refine kK' (T := 22) fun bk => ?_)|refine kv' ?_|apply jJ|refine jE' ?_|refine jp' ?_|(apply jc;kernel_rfl)|refine kg' ?_|refine kG' ?_|refine kB' fun _=>?_|refine kA' fun _=>?_|refine kK' fun _=>?_|refine kU' ?_|((first|refine kR' ?_ ?_|refine kQ' ?_ ?_);all_goals(intro hc;try simp only[hcs]at hc;try(exfalso;first|contradiction|omega))))
  exact At.item ⟨none, bk, 0, 0⟩ rfl (fun w h => h)
noncomputable def k92_32 (b1 : Nat) (b2 : Nat) : IT := ⟨10, 32, [31], fun g => .agg ([.slice (some ⟨(g 31).b, 0, none⟩) 1 1, .slice none 0 0] : List Value).toArray, fun g => []⟩
theorem k92_32_ok (w0 : World) (b1 : Nat) (b2 : Nat) : ILoc (k92_32 b1 b2) ∧ IOk Try.prog 359 k92_ops w0 NoF [both (thr1 b1) (thr2 b2)] [(1, .slice (some ⟨b2, 0, none⟩) 2 2)] (k92_32 b1 b2) [k92_31 b1 b2] := by
  refine ⟨fun g g' hl => ⟨?_, ?_⟩, _, rfl, fun g h R LA e => ?_⟩
  · simp only [k92_32, hl 31 (show 31 ∈ [31] by decide)]
  · simp only [k92_32, hl 31 (show 31 ∈ [31] by decide)]
  subst e
  dsimp only [depF, depA, extF, k92_31, List.cons_append, List.nil_append, List.append_eq]
  repeat'(first|refine kv' ?_|apply jJ|refine jE' ?_|refine jp' ?_|(apply jc;kernel_rfl)|refine kg' ?_|refine kG' ?_|refine kB' fun _=>?_|refine kA' fun _=>?_|refine kK' fun _=>?_|refine kU' ?_|((first|refine kR' ?_ ?_|refine kQ' ?_ ?_);all_goals(intro hc;try simp only[hcs]at hc;try(exfalso;first|contradiction|omega))))
  exact At.item ⟨none, 0, 0, 0⟩ rfl (fun w h => h)
noncomputable def k92_33 (b1 : Nat) (b2 : Nat) : IT := ⟨11, 33, [33], fun g => .slice (some ⟨(g 33).b, 0, none⟩) 1 1, fun g => [.own (g 33).b (.cells ([.int .i64 (-2)] : List Value).toArray 3 (0, 0))]⟩
theorem k92_33_ok (w0 : World) (b1 : Nat) (b2 : Nat) : ILoc (k92_33 b1 b2) ∧ IOk Try.prog 359 k92_ops w0 NoF [both (thr1 b1) (thr2 b2)] [(1, .slice (some ⟨b2, 0, none⟩) 2 2)] (k92_33 b1 b2) [] := by
  refine ⟨fun g g' hl => ⟨?_, ?_⟩, _, rfl, fun g h R LA e => ?_⟩
  · simp only [k92_33, hl 33 (show 33 ∈ [33] by decide)]
  · simp only [k92_33, hl 33 (show 33 ∈ [33] by decide)]
  subst e
  dsimp only [depF, depA, extF, List.cons_append, List.nil_append, List.append_eq]
  repeat'(first|(refine kK' (T := 22) fun bk => ?_)|refine kv' ?_|apply jJ|refine jE' ?_|refine jp' ?_|(apply jc;kernel_rfl)|refine kg' ?_|refine kG' ?_|refine kB' fun _=>?_|refine kA' fun _=>?_|refine kK' fun _=>?_|refine kU' ?_|((first|refine kR' ?_ ?_|refine kQ' ?_ ?_);all_goals(intro hc;try simp only[hcs]at hc;try(exfalso;first|contradiction|omega))))
  exact At.item ⟨none, bk, 0, 0⟩ rfl (fun w h => h)
noncomputable def k92_34 (b1 : Nat) (b2 : Nat) : IT := ⟨12, 34, [33], fun g => .agg ([.slice (some ⟨(g 33).b, 0, none⟩) 1 1, .slice none 0 0] : List Value).toArray, fun g => []⟩
theorem k92_34_ok (w0 : World) (b1 : Nat) (b2 : Nat) : ILoc (k92_34 b1 b2) ∧ IOk Try.prog 359 k92_ops w0 NoF [both (thr1 b1) (thr2 b2)] [(1, .slice (some ⟨b2, 0, none⟩) 2 2)] (k92_34 b1 b2) [k92_33 b1 b2] := by
  refine ⟨fun g g' hl => ⟨?_, ?_⟩, _, rfl, fun g h R LA e => ?_⟩
  · simp only [k92_34, hl 33 (show 33 ∈ [33] by decide)]
  · simp only [k92_34, hl 33 (show 33 ∈ [33] by decide)]
  subst e
  dsimp only [depF, depA, extF, k92_33, List.cons_append, List.nil_append, List.append_eq]
  repeat'(first|refine kv' ?_|apply jJ|refine jE' ?_|refine jp' ?_|(apply jc;kernel_rfl)|refine kg' ?_|refine kG' ?_|refine kB' fun _=>?_|refine kA' fun _=>?_|refine kK' fun _=>?_|refine kU' ?_|((first|refine kR' ?_ ?_|refine kQ' ?_ ?_);all_goals(intro hc;try simp only[hcs]at hc;try(exfalso;first|contradiction|omega))))
  exact At.item ⟨none, 0, 0, 0⟩ rfl (fun w h => h)
noncomputable def k92_35 (b1 : Nat) (b2 : Nat) : IT := ⟨13, 35, [35], fun g => .slice (some ⟨(g 35).b, 0, none⟩) 5 5, fun g => [.own (g 35).b (.cells ([.int .i64 2, .int .i64 4, .int .i64 8, .int .i64 16, .int .i64 32] : List Value).toArray 3 (0, 0))]⟩
theorem k92_35_ok (w0 : World) (b1 : Nat) (b2 : Nat) : ILoc (k92_35 b1 b2) ∧ IOk Try.prog 359 k92_ops w0 NoF [both (thr1 b1) (thr2 b2)] [(1, .slice (some ⟨b2, 0, none⟩) 2 2)] (k92_35 b1 b2) [] := by
  refine ⟨fun g g' hl => ⟨?_, ?_⟩, _, rfl, fun g h R LA e => ?_⟩
  · simp only [k92_35, hl 35 (show 35 ∈ [35] by decide)]
  · simp only [k92_35, hl 35 (show 35 ∈ [35] by decide)]
  subst e
  dsimp only [depF, depA, extF, List.cons_append, List.nil_append, List.append_eq]
  repeat'(first|(refine kK' (T := 22) fun bk => ?_)|refine kv' ?_|apply jJ|refine jE' ?_|refine jp' ?_|(apply jc;kernel_rfl)|refine kg' ?_|refine kG' ?_|refine kB' fun _=>?_|refine kA' fun _=>?_|refine kK' fun _=>?_|refine kU' ?_|((first|refine kR' ?_ ?_|refine kQ' ?_ ?_);all_goals(intro hc;try simp only[hcs]at hc;try(exfalso;first|contradiction|omega))))
  exact At.item ⟨none, bk, 0, 0⟩ rfl (fun w h => h)
noncomputable def k92_36 (b1 : Nat) (b2 : Nat) : IT := ⟨14, 36, [35], fun g => .agg ([.slice (some ⟨(g 35).b, 0, none⟩) 5 5, .slice none 0 0] : List Value).toArray, fun g => []⟩
theorem k92_36_ok (w0 : World) (b1 : Nat) (b2 : Nat) : ILoc (k92_36 b1 b2) ∧ IOk Try.prog 359 k92_ops w0 NoF [both (thr1 b1) (thr2 b2)] [(1, .slice (some ⟨b2, 0, none⟩) 2 2)] (k92_36 b1 b2) [k92_35 b1 b2] := by
  refine ⟨fun g g' hl => ⟨?_, ?_⟩, _, rfl, fun g h R LA e => ?_⟩
  · simp only [k92_36, hl 35 (show 35 ∈ [35] by decide)]
  · simp only [k92_36, hl 35 (show 35 ∈ [35] by decide)]
  subst e
  dsimp only [depF, depA, extF, k92_35, List.cons_append, List.nil_append, List.append_eq]
  repeat'(first|refine kv' ?_|apply jJ|refine jE' ?_|refine jp' ?_|(apply jc;kernel_rfl)|refine kg' ?_|refine kG' ?_|refine kB' fun _=>?_|refine kA' fun _=>?_|refine kK' fun _=>?_|refine kU' ?_|((first|refine kR' ?_ ?_|refine kQ' ?_ ?_);all_goals(intro hc;try simp only[hcs]at hc;try(exfalso;first|contradiction|omega))))
  exact At.item ⟨none, 0, 0, 0⟩ rfl (fun w h => h)
noncomputable def k92_37 (b1 : Nat) (b2 : Nat) : IT := ⟨15, 37, [37], fun g => .slice (some ⟨(g 37).b, 0, none⟩) 3 3, fun g => [.own (g 37).b (.cells ([.int .i64 14, .int .i64 56, .int .i64 96] : List Value).toArray 3 (0, 0))]⟩
theorem k92_37_ok (w0 : World) (b1 : Nat) (b2 : Nat) : ILoc (k92_37 b1 b2) ∧ IOk Try.prog 359 k92_ops w0 NoF [both (thr1 b1) (thr2 b2)] [(1, .slice (some ⟨b2, 0, none⟩) 2 2)] (k92_37 b1 b2) [] := by
  refine ⟨fun g g' hl => ⟨?_, ?_⟩, _, rfl, fun g h R LA e => ?_⟩
  · simp only [k92_37, hl 37 (show 37 ∈ [37] by decide)]
  · simp only [k92_37, hl 37 (show 37 ∈ [37] by decide)]
  subst e
  dsimp only [depF, depA, extF, List.cons_append, List.nil_append, List.append_eq]
  repeat'(first|(refine kK' (T := 22) fun bk => ?_)|refine kv' ?_|apply jJ|refine jE' ?_|refine jp' ?_|(apply jc;kernel_rfl)|refine kg' ?_|refine kG' ?_|refine kB' fun _=>?_|refine kA' fun _=>?_|refine kK' fun _=>?_|refine kU' ?_|((first|refine kR' ?_ ?_|refine kQ' ?_ ?_);all_goals(intro hc;try simp only[hcs]at hc;try(exfalso;first|contradiction|omega))))
  exact At.item ⟨none, bk, 0, 0⟩ rfl (fun w h => h)
noncomputable def k92_38 (b1 : Nat) (b2 : Nat) : IT := ⟨16, 38, [], fun g => .slice (some ⟨b2, 0, none⟩) 2 2, fun g => []⟩
theorem k92_38_ok (w0 : World) (b1 : Nat) (b2 : Nat) : ILoc (k92_38 b1 b2) ∧ IOk Try.prog 359 k92_ops w0 NoF [both (thr1 b1) (thr2 b2)] [(1, .slice (some ⟨b2, 0, none⟩) 2 2)] (k92_38 b1 b2) [] := by
  refine ⟨fun g g' hl => ⟨?_, ?_⟩, _, rfl, fun g h R LA e => ?_⟩
  · simp only [k92_38]
  · simp only [k92_38]
  subst e
  dsimp only [depF, depA, extF, List.cons_append, List.nil_append, List.append_eq]
  repeat'(first|refine kv' ?_|apply jJ|refine jE' ?_|refine jp' ?_|(apply jc;kernel_rfl)|refine kg' ?_|refine kG' ?_|refine kB' fun _=>?_|refine kA' fun _=>?_|refine kK' fun _=>?_|refine kU' ?_|((first|refine kR' ?_ ?_|refine kQ' ?_ ?_);all_goals(intro hc;try simp only[hcs]at hc;try(exfalso;first|contradiction|omega))))
  exact At.item ⟨none, 0, 0, 0⟩ rfl (fun w h => h)
noncomputable def k92_39 (b1 : Nat) (b2 : Nat) : IT := ⟨17, 39, [], fun g => .pointer (some ⟨b2, 0, none⟩), fun g => []⟩
theorem k92_39_ok (w0 : World) (b1 : Nat) (b2 : Nat) : ILoc (k92_39 b1 b2) ∧ IOk Try.prog 359 k92_ops w0 NoF [both (thr1 b1) (thr2 b2)] [(1, .slice (some ⟨b2, 0, none⟩) 2 2)] (k92_39 b1 b2) [k92_38 b1 b2] := by
  refine ⟨fun g g' hl => ⟨?_, ?_⟩, _, rfl, fun g h R LA e => ?_⟩
  · simp only [k92_39]
  · simp only [k92_39]
  subst e
  dsimp only [depF, depA, extF, k92_38, List.cons_append, List.nil_append, List.append_eq]
  repeat'(first|(apply LR.ev; (· apply Ev.indexAddr; (· exact rfl); (· exact rfl); (· decide); (· decide)); (· exact rfl))|refine kv' ?_|apply jJ|refine jE' ?_|refine jp' ?_|(apply jc;kernel_rfl)|refine kg' ?_|refine kG' ?_|refine kB' fun _=>?_|refine kA' fun _=>?_|refine kK' fun _=>?_|refine kU' ?_|((first|refine kR' ?_ ?_|refine kQ' ?_ ?_);all_goals(intro hc;try simp only[hcs]at hc;try(exfalso;first|contradiction|omega))))
  exact At.item ⟨none, 0, 0, 0⟩ rfl (fun w h => h)
noncomputable def k92_40 (b1 : Nat) (b2 : Nat) : IT := ⟨18, 40, [], fun g => .agg ([.int .i64 3, .int .i64 0, .int .i64 1] : List Value).toArray, fun g => []⟩
theorem k92_40_ok (w0 : World) (b1 : Nat) (b2 : Nat) : ILoc (k92_40 b1 b2) ∧ IOk Try.prog 359 k92_ops w0 NoF [both (thr1 b1) (thr2 b2)] [(1, .slice (some ⟨b2, 0, none⟩) 2 2)] (k92_40 b1 b2) [k92_39 b1 b2] := by
  refine ⟨fun g g' hl => ⟨?_, ?_⟩, _, rfl, fun g h R LA e => ?_⟩
  · simp only [k92_40]
  · simp only [k92_40]
  subst e
  dsimp only [depF, depA, extF, k92_39, List.cons_append, List.nil_append, List.append_eq]
  repeat'(first|(apply LR.ev; (· apply Ev.load_agg_at (cs := [.int .i64 3, .int .i64 0, .int .i64 1]); (· exact rfl); (· exact rfl); (· intro w' hw'; exact gv_one (thR (hw'.holds (both (thr1 b1) (thr2 b2)) memZ)).g 0 (by decide) rfl)); (· exact rfl))|refine kv' ?_|apply jJ|refine jE' ?_|refine jp' ?_|(apply jc;kernel_rfl)|refine kg' ?_|refine kG' ?_|refine kB' fun _=>?_|refine kA' fun _=>?_|refine kK' fun _=>?_|refine kU' ?_|((first|refine kR' ?_ ?_|refine kQ' ?_ ?_);all_goals(intro hc;try simp only[hcs]at hc;try(exfalso;first|contradiction|omega))))
  exact At.item ⟨none, 0, 0, 0⟩ rfl (fun w h => h)
noncomputable def k92_41 (b1 : Nat) (b2 : Nat) : IT := ⟨19, 41, [], fun g => .slice (some ⟨b2, 0, none⟩) 2 2, fun g => []⟩
theorem k92_41_ok (w0 : World) (b1 : Nat) (b2 : Nat) : ILoc (k92_41 b1 b2) ∧ IOk Try.prog 359 k92_ops w0 NoF [both (thr1 b1) (thr2 b2)] [(1, .slice (some ⟨b2, 0, none⟩) 2 2)] (k92_41 b1 b2) [] := by
  refine ⟨fun g g' hl => ⟨?_, ?_⟩, _, rfl, fun g h R LA e => ?_⟩
  · simp only [k92_41]
  · simp only [k92_41]
  subst e
  dsimp only [depF, depA, extF, List.cons_append, List.nil_append, List.append_eq]
  repeat'(first|refine kv' ?_|apply jJ|refine jE' ?_|refine jp' ?_|(apply jc;kernel_rfl)|refine kg' ?_|refine kG' ?_|refine kB' fun _=>?_|refine kA' fun _=>?_|refine kK' fun _=>?_|refine kU' ?_|((first|refine kR' ?_ ?_|refine kQ' ?_ ?_);all_goals(intro hc;try simp only[hcs]at hc;try(exfalso;first|contradiction|omega))))
  exact At.item ⟨none, 0, 0, 0⟩ rfl (fun w h => h)
noncomputable def k92_42 (b1 : Nat) (b2 : Nat) : IT := ⟨20, 42, [], fun g => .pointer (some ⟨b2, 3, none⟩), fun g => []⟩
theorem k92_42_ok (w0 : World) (b1 : Nat) (b2 : Nat) : ILoc (k92_42 b1 b2) ∧ IOk Try.prog 359 k92_ops w0 NoF [both (thr1 b1) (thr2 b2)] [(1, .slice (some ⟨b2, 0, none⟩) 2 2)] (k92_42 b1 b2) [k92_41 b1 b2] := by
  refine ⟨fun g g' hl => ⟨?_, ?_⟩, _, rfl, fun g h R LA e => ?_⟩
  · simp only [k92_42]
  · simp only [k92_42]
  subst e
  dsimp only [depF, depA, extF, k92_41, List.cons_append, List.nil_append, List.append_eq]
  repeat'(first|(apply LR.ev; (· apply Ev.indexAddr; (· exact rfl); (· exact rfl); (· decide); (· decide)); (· exact rfl))|refine kv' ?_|apply jJ|refine jE' ?_|refine jp' ?_|(apply jc;kernel_rfl)|refine kg' ?_|refine kG' ?_|refine kB' fun _=>?_|refine kA' fun _=>?_|refine kK' fun _=>?_|refine kU' ?_|((first|refine kR' ?_ ?_|refine kQ' ?_ ?_);all_goals(intro hc;try simp only[hcs]at hc;try(exfalso;first|contradiction|omega))))
  exact At.item ⟨none, 0, 0, 0⟩ rfl (fun w h => h)
noncomputable def k92_43 (b1 : Nat) (b2 : Nat) : IT := ⟨21, 43, [], fun g => .agg ([.int .i64 5, .int .i64 1, .int .i64 2] : List Value).toArray, fun g => []⟩
theorem k92_43_ok (w0 : World) (b1 : Nat) (b2 : Nat) : ILoc (k92_43 b1 b2) ∧ IOk Try.prog 359 k92_ops w0 NoF [both (thr1 b1) (thr2 b2)] [(1, .slice (some ⟨b2, 0, none⟩) 2 2)] (k92_43 b1 b2) [k92_42 b1 b2] := by
  refine ⟨fun g g' hl => ⟨?_, ?_⟩, _, rfl, fun g h R LA e => ?_⟩
  · simp only [k92_43]
  · simp only [k92_43]
  subst e
  dsimp only [depF, depA, extF, k92_42, List.cons_append, List.nil_append, List.append_eq]
  repeat'(first|(apply LR.ev; (· apply Ev.load_agg_at (cs := [.int .i64 5, .int .i64 1, .int .i64 2]); (· exact rfl); (· exact rfl); (· intro w' hw'; exact gv_one (thR (hw'.holds (both (thr1 b1) (thr2 b2)) memZ)).g 1 (by decide) rfl)); (· exact rfl))|refine kv' ?_|apply jJ|refine jE' ?_|refine jp' ?_|(apply jc;kernel_rfl)|refine kg' ?_|refine kG' ?_|refine kB' fun _=>?_|refine kA' fun _=>?_|refine kK' fun _=>?_|refine kU' ?_|((first|refine kR' ?_ ?_|refine kQ' ?_ ?_);all_goals(intro hc;try simp only[hcs]at hc;try(exfalso;first|contradiction|omega))))
  exact At.item ⟨none, 0, 0, 0⟩ rfl (fun w h => h)
noncomputable def k92_44 (b1 : Nat) (b2 : Nat) : IT := ⟨22, 44, [], fun g => .agg ([.int .i64 1, .int .i64 0, .int .i64 1] : List Value).toArray, fun g => []⟩
theorem k92_44_ok (w0 : World) (b1 : Nat) (b2 : Nat) : ILoc (k92_44 b1 b2) ∧ IOk Try.prog 359 k92_ops w0 NoF [both (thr1 b1) (thr2 b2)] [(1, .slice (some ⟨b2, 0, none⟩) 2 2)] (k92_44 b1 b2) [] := by
  refine ⟨fun g g' hl => ⟨?_, ?_⟩, _, rfl, fun g h R LA e => ?_⟩
  · simp only [k92_44]
  · simp only [k92_44]
  subst e
  dsimp only [depF, depA, extF, List.cons_append, List.nil_append, List.append_eq]
  repeat'(first|refine kv' ?_|apply jJ|refine jE' ?_|refine jp' ?_|(apply jc;kernel_rfl)|refine kg' ?_|refine kG' ?_|refine kB' fun _=>?_|refine kA' fun _=>?_|refine kK' fun _=>?_|refine kU' ?_|((first|refine kR' ?_ ?_|refine kQ' ?_ ?_);all_goals(intro hc;try simp only[hcs]at hc;try(exfalso;first|contradiction|omega))))
  exact At.item ⟨none, 0, 0, 0⟩ rfl (fun w h => h)
noncomputable def k92_45 (b1 : Nat) (b2 : Nat) : IT := ⟨23, 45, [45], fun g => .slice (some ⟨(g 45).b, 0, none⟩) 3 3, fun g => [.own (g 45).b (.cells ([.int .i64 3, .int .i64 0, .int .i64 1, .int .i64 5, .int .i64 1, .int .i64 2, .int .i64 1, .int .i64 0, .int .i64 1] : List Value).toArray 34 (0, 0))]⟩
theorem k92_45_ok (w0 : World) (b1 : Nat) (b2 : Nat) : ILoc (k92_45 b1 b2) ∧ IOk Try.prog 359 k92_ops w0 NoF [both (thr1 b1) (thr2 b2)] [(1, .slice (some ⟨b2, 0, none⟩) 2 2)] (k92_45 b1 b2) [k92_40 b1 b2, k92_43 b1 b2, k92_44 b1 b2] := by
  refine ⟨fun g g' hl => ⟨?_, ?_⟩, _, rfl, fun g h R LA e => ?_⟩
  · simp only [k92_45, hl 45 (show 45 ∈ [45] by decide)]
  · simp only [k92_45, hl 45 (show 45 ∈ [45] by decide)]
  subst e
  dsimp only [depF, depA, extF, k92_40, k92_43, k92_44, List.cons_append, List.nil_append, List.append_eq]
  repeat'(first|(refine kK' (T := 23) fun bk => ?_)|refine kv' ?_|apply jJ|refine jE' ?_|refine jp' ?_|(apply jc;kernel_rfl)|refine kg' ?_|refine kG' ?_|refine kB' fun _=>?_|refine kA' fun _=>?_|refine kK' fun _=>?_|refine kU' ?_|((first|refine kR' ?_ ?_|refine kQ' ?_ ?_);all_goals(intro hc;try simp only[hcs]at hc;try(exfalso;first|contradiction|omega))))
  exact At.item ⟨none, bk, 0, 0⟩ rfl (fun w h => h)
noncomputable def k92_46 (b1 : Nat) (b2 : Nat) : IT := ⟨24, 46, [37, 45], fun g => .agg ([.slice (some ⟨(g 37).b, 0, none⟩) 3 3, .slice (some ⟨(g 45).b, 0, none⟩) 3 3] : List Value).toArray, fun g => []⟩
theorem k92_46_ok (w0 : World) (b1 : Nat) (b2 : Nat) : ILoc (k92_46 b1 b2) ∧ IOk Try.prog 359 k92_ops w0 NoF [both (thr1 b1) (thr2 b2)] [(1, .slice (some ⟨b2, 0, none⟩) 2 2)] (k92_46 b1 b2) [k92_37 b1 b2, k92_45 b1 b2] := by
  refine ⟨fun g g' hl => ⟨?_, ?_⟩, _, rfl, fun g h R LA e => ?_⟩
  · simp only [k92_46, hl 37 (show 37 ∈ [37, 45] by decide), hl 45 (show 45 ∈ [37, 45] by decide)]
  · simp only [k92_46, hl 37 (show 37 ∈ [37, 45] by decide), hl 45 (show 45 ∈ [37, 45] by decide)]
  subst e
  dsimp only [depF, depA, extF, k92_37, k92_45, List.cons_append, List.nil_append, List.append_eq]
  repeat'(first|refine kv' ?_|apply jJ|refine jE' ?_|refine jp' ?_|(apply jc;kernel_rfl)|refine kg' ?_|refine kG' ?_|refine kB' fun _=>?_|refine kA' fun _=>?_|refine kK' fun _=>?_|refine kU' ?_|((first|refine kR' ?_ ?_|refine kQ' ?_ ?_);all_goals(intro hc;try simp only[hcs]at hc;try(exfalso;first|contradiction|omega))))
  exact At.item ⟨none, 0, 0, 0⟩ rfl (fun w h => h)
noncomputable def k92_47 (b1 : Nat) (b2 : Nat) : IT := ⟨25, 47, [47], fun g => .slice (some ⟨(g 47).b, 0, none⟩) 2 2, fun g => [.own (g 47).b (.cells ([.int .i64 24, .int .i64 24] : List Value).toArray 3 (0, 0))]⟩
theorem k92_47_ok (w0 : World) (b1 : Nat) (b2 : Nat) : ILoc (k92_47 b1 b2) ∧ IOk Try.prog 359 k92_ops w0 NoF [both (thr1 b1) (thr2 b2)] [(1, .slice (some ⟨b2, 0, none⟩) 2 2)] (k92_47 b1 b2) [] := by
  refine ⟨fun g g' hl => ⟨?_, ?_⟩, _, rfl, fun g h R LA e => ?_⟩
  · simp only [k92_47, hl 47 (show 47 ∈ [47] by decide)]
  · simp only [k92_47, hl 47 (show 47 ∈ [47] by decide)]
  subst e
  dsimp only [depF, depA, extF, List.cons_append, List.nil_append, List.append_eq]
  repeat'(first|(refine kK' (T := 22) fun bk => ?_)|refine kv' ?_|apply jJ|refine jE' ?_|refine jp' ?_|(apply jc;kernel_rfl)|refine kg' ?_|refine kG' ?_|refine kB' fun _=>?_|refine kA' fun _=>?_|refine kK' fun _=>?_|refine kU' ?_|((first|refine kR' ?_ ?_|refine kQ' ?_ ?_);all_goals(intro hc;try simp only[hcs]at hc;try(exfalso;first|contradiction|omega))))
  exact At.item ⟨none, bk, 0, 0⟩ rfl (fun w h => h)
noncomputable def k92_48 (b1 : Nat) (b2 : Nat) : IT := ⟨26, 48, [], fun g => .agg ([.int .i64 3, .int .i64 0, .int .i64 1] : List Value).toArray, fun g => []⟩
theorem k92_48_ok (w0 : World) (b1 : Nat) (b2 : Nat) : ILoc (k92_48 b1 b2) ∧ IOk Try.prog 359 k92_ops w0 NoF [both (thr1 b1) (thr2 b2)] [(1, .slice (some ⟨b2, 0, none⟩) 2 2)] (k92_48 b1 b2) [] := by
  refine ⟨fun g g' hl => ⟨?_, ?_⟩, _, rfl, fun g h R LA e => ?_⟩
  · simp only [k92_48]
  · simp only [k92_48]
  subst e
  dsimp only [depF, depA, extF, List.cons_append, List.nil_append, List.append_eq]
  repeat'(first|refine kv' ?_|apply jJ|refine jE' ?_|refine jp' ?_|(apply jc;kernel_rfl)|refine kg' ?_|refine kG' ?_|refine kB' fun _=>?_|refine kA' fun _=>?_|refine kK' fun _=>?_|refine kU' ?_|((first|refine kR' ?_ ?_|refine kQ' ?_ ?_);all_goals(intro hc;try simp only[hcs]at hc;try(exfalso;first|contradiction|omega))))
  exact At.item ⟨none, 0, 0, 0⟩ rfl (fun w h => h)
noncomputable def k92_49 (b1 : Nat) (b2 : Nat) : IT := ⟨27, 49, [], fun g => .agg ([.int .i64 4, .int .i64 0, .int .i64 1] : List Value).toArray, fun g => []⟩
theorem k92_49_ok (w0 : World) (b1 : Nat) (b2 : Nat) : ILoc (k92_49 b1 b2) ∧ IOk Try.prog 359 k92_ops w0 NoF [both (thr1 b1) (thr2 b2)] [(1, .slice (some ⟨b2, 0, none⟩) 2 2)] (k92_49 b1 b2) [] := by
  refine ⟨fun g g' hl => ⟨?_, ?_⟩, _, rfl, fun g h R LA e => ?_⟩
  · simp only [k92_49]
  · simp only [k92_49]
  subst e
  dsimp only [depF, depA, extF, List.cons_append, List.nil_append, List.append_eq]
  repeat'(first|refine kv' ?_|apply jJ|refine jE' ?_|refine jp' ?_|(apply jc;kernel_rfl)|refine kg' ?_|refine kG' ?_|refine kB' fun _=>?_|refine kA' fun _=>?_|refine kK' fun _=>?_|refine kU' ?_|((first|refine kR' ?_ ?_|refine kQ' ?_ ?_);all_goals(intro hc;try simp only[hcs]at hc;try(exfalso;first|contradiction|omega))))
  exact At.item ⟨none, 0, 0, 0⟩ rfl (fun w h => h)
noncomputable def k92_50 (b1 : Nat) (b2 : Nat) : IT := ⟨28, 50, [50], fun g => .slice (some ⟨(g 50).b, 0, none⟩) 2 2, fun g => [.own (g 50).b (.cells ([.int .i64 3, .int .i64 0, .int .i64 1, .int .i64 4, .int .i64 0, .int .i64 1] : List Value).toArray 34 (0, 0))]⟩
theorem k92_50_ok (w0 : World) (b1 : Nat) (b2 : Nat) : ILoc (k92_50 b1 b2) ∧ IOk Try.prog 359 k92_ops w0 NoF [both (thr1 b1) (thr2 b2)] [(1, .slice (some ⟨b2, 0, none⟩) 2 2)] (k92_50 b1 b2) [k92_48 b1 b2, k92_49 b1 b2] := by
  refine ⟨fun g g' hl => ⟨?_, ?_⟩, _, rfl, fun g h R LA e => ?_⟩
  · simp only [k92_50, hl 50 (show 50 ∈ [50] by decide)]
  · simp only [k92_50, hl 50 (show 50 ∈ [50] by decide)]
  subst e
  dsimp only [depF, depA, extF, k92_48, k92_49, List.cons_append, List.nil_append, List.append_eq]
  repeat'(first|(refine kK' (T := 23) fun bk => ?_)|refine kv' ?_|apply jJ|refine jE' ?_|refine jp' ?_|(apply jc;kernel_rfl)|refine kg' ?_|refine kG' ?_|refine kB' fun _=>?_|refine kA' fun _=>?_|refine kK' fun _=>?_|refine kU' ?_|((first|refine kR' ?_ ?_|refine kQ' ?_ ?_);all_goals(intro hc;try simp only[hcs]at hc;try(exfalso;first|contradiction|omega))))
  exact At.item ⟨none, bk, 0, 0⟩ rfl (fun w h => h)
noncomputable def k92_51 (b1 : Nat) (b2 : Nat) : IT := ⟨29, 51, [47, 50], fun g => .agg ([.slice (some ⟨(g 47).b, 0, none⟩) 2 2, .slice (some ⟨(g 50).b, 0, none⟩) 2 2] : List Value).toArray, fun g => []⟩
theorem k92_51_ok (w0 : World) (b1 : Nat) (b2 : Nat) : ILoc (k92_51 b1 b2) ∧ IOk Try.prog 359 k92_ops w0 NoF [both (thr1 b1) (thr2 b2)] [(1, .slice (some ⟨b2, 0, none⟩) 2 2)] (k92_51 b1 b2) [k92_47 b1 b2, k92_50 b1 b2] := by
  refine ⟨fun g g' hl => ⟨?_, ?_⟩, _, rfl, fun g h R LA e => ?_⟩
  · simp only [k92_51, hl 47 (show 47 ∈ [47, 50] by decide), hl 50 (show 50 ∈ [47, 50] by decide)]
  · simp only [k92_51, hl 47 (show 47 ∈ [47, 50] by decide), hl 50 (show 50 ∈ [47, 50] by decide)]
  subst e
  dsimp only [depF, depA, extF, k92_47, k92_50, List.cons_append, List.nil_append, List.append_eq]
  repeat'(first|refine kv' ?_|apply jJ|refine jE' ?_|refine jp' ?_|(apply jc;kernel_rfl)|refine kg' ?_|refine kG' ?_|refine kB' fun _=>?_|refine kA' fun _=>?_|refine kK' fun _=>?_|refine kU' ?_|((first|refine kR' ?_ ?_|refine kQ' ?_ ?_);all_goals(intro hc;try simp only[hcs]at hc;try(exfalso;first|contradiction|omega))))
  exact At.item ⟨none, 0, 0, 0⟩ rfl (fun w h => h)
noncomputable def k92_52 (b1 : Nat) (b2 : Nat) : IT := ⟨30, 52, [52], fun g => .slice (some ⟨(g 52).b, 0, none⟩) 2 2, fun g => [.own (g 52).b (.cells ([.int .i64 14, .int .i64 56] : List Value).toArray 3 (0, 0))]⟩
theorem k92_52_ok (w0 : World) (b1 : Nat) (b2 : Nat) : ILoc (k92_52 b1 b2) ∧ IOk Try.prog 359 k92_ops w0 NoF [both (thr1 b1) (thr2 b2)] [(1, .slice (some ⟨b2, 0, none⟩) 2 2)] (k92_52 b1 b2) [] := by
  refine ⟨fun g g' hl => ⟨?_, ?_⟩, _, rfl, fun g h R LA e => ?_⟩
  · simp only [k92_52, hl 52 (show 52 ∈ [52] by decide)]
  · simp only [k92_52, hl 52 (show 52 ∈ [52] by decide)]
  subst e
  dsimp only [depF, depA, extF, List.cons_append, List.nil_append, List.append_eq]
  repeat'(first|(refine kK' (T := 22) fun bk => ?_)|refine kv' ?_|apply jJ|refine jE' ?_|refine jp' ?_|(apply jc;kernel_rfl)|refine kg' ?_|refine kG' ?_|refine kB' fun _=>?_|refine kA' fun _=>?_|refine kK' fun _=>?_|refine kU' ?_|((first|refine kR' ?_ ?_|refine kQ' ?_ ?_);all_goals(intro hc;try simp only[hcs]at hc;try(exfalso;first|contradiction|omega))))
  exact At.item ⟨none, bk, 0, 0⟩ rfl (fun w h => h)
noncomputable def k92_53 (b1 : Nat) (b2 : Nat) : IT := ⟨31, 53, [], fun g => .agg ([.int .i64 3, .int .i64 1, .int .i64 0] : List Value).toArray, fun g => []⟩
theorem k92_53_ok (w0 : World) (b1 : Nat) (b2 : Nat) : ILoc (k92_53 b1 b2) ∧ IOk Try.prog 359 k92_ops w0 NoF [both (thr1 b1) (thr2 b2)] [(1, .slice (some ⟨b2, 0, none⟩) 2 2)] (k92_53 b1 b2) [] := by
  refine ⟨fun g g' hl => ⟨?_, ?_⟩, _, rfl, fun g h R LA e => ?_⟩
  · simp only [k92_53]
  · simp only [k92_53]
  subst e
  dsimp only [depF, depA, extF, List.cons_append, List.nil_append, List.append_eq]
  repeat'(first|refine kv' ?_|apply jJ|refine jE' ?_|refine jp' ?_|(apply jc;kernel_rfl)|refine kg' ?_|refine kG' ?_|refine kB' fun _=>?_|refine kA' fun _=>?_|refine kK' fun _=>?_|refine kU' ?_|((first|refine kR' ?_ ?_|refine kQ' ?_ ?_);all_goals(intro hc;try simp only[hcs]at hc;try(exfalso;first|contradiction|omega))))
  exact At.item ⟨none, 0, 0, 0⟩ rfl (fun w h => h)
noncomputable def k92_54 (b1 : Nat) (b2 : Nat) : IT := ⟨32, 54, [54], fun g => .slice (some ⟨(g 54).b, 0, none⟩) 1 1, fun g => [.own (g 54).b (.cells ([.int .i64 3, .int .i64 1, .int .i64 0] : List Value).toArray 34 (0, 0))]⟩
theorem k92_54_ok (w0 : World) (b1 : Nat) (b2 : Nat) : ILoc (k92_54 b1 b2) ∧ IOk Try.prog 359 k92_ops w0 NoF [both (thr1 b1) (thr2 b2)] [(1, .slice (some ⟨b2, 0, none⟩) 2 2)] (k92_54 b1 b2) [k92_53 b1 b2] := by
  refine ⟨fun g g' hl => ⟨?_, ?_⟩, _, rfl, fun g h R LA e => ?_⟩
  · simp only [k92_54, hl 54 (show 54 ∈ [54] by decide)]
  · simp only [k92_54, hl 54 (show 54 ∈ [54] by decide)]
  subst e
  dsimp only [depF, depA, extF, k92_53, List.cons_append, List.nil_append, List.append_eq]
  repeat'(first|(refine kK' (T := 23) fun bk => ?_)|refine kv' ?_|apply jJ|refine jE' ?_|refine jp' ?_|(apply jc;kernel_rfl)|refine kg' ?_|refine kG' ?_|refine kB' fun _=>?_|refine kA' fun _=>?_|refine kK' fun _=>?_|refine kU' ?_|((first|refine kR' ?_ ?_|refine kQ' ?_ ?_);all_goals(intro hc;try simp only[hcs]at hc;try(exfalso;first|contradiction|omega))))
  exact At.item ⟨none, bk, 0, 0⟩ rfl (fun w h => h)
noncomputable def k92_55 (b1 : Nat) (b2 : Nat) : IT := ⟨33, 55, [52, 54], fun g => .agg ([.slice (some ⟨(g 52).b, 0, none⟩) 2 2, .slice (some ⟨(g 54).b, 0, none⟩) 1 1] : List Value).toArray, fun g => []⟩
theorem k92_55_ok (w0 : World) (b1 : Nat) (b2 : Nat) : ILoc (k92_55 b1 b2) ∧ IOk Try.prog 359 k92_ops w0 NoF [both (thr1 b1) (thr2 b2)] [(1, .slice (some ⟨b2, 0, none⟩) 2 2)] (k92_55 b1 b2) [k92_52 b1 b2, k92_54 b1 b2] := by
  refine ⟨fun g g' hl => ⟨?_, ?_⟩, _, rfl, fun g h R LA e => ?_⟩
  · simp only [k92_55, hl 52 (show 52 ∈ [52, 54] by decide), hl 54 (show 54 ∈ [52, 54] by decide)]
  · simp only [k92_55, hl 52 (show 52 ∈ [52, 54] by decide), hl 54 (show 54 ∈ [52, 54] by decide)]
  subst e
  dsimp only [depF, depA, extF, k92_52, k92_54, List.cons_append, List.nil_append, List.append_eq]
  repeat'(first|refine kv' ?_|apply jJ|refine jE' ?_|refine jp' ?_|(apply jc;kernel_rfl)|refine kg' ?_|refine kG' ?_|refine kB' fun _=>?_|refine kA' fun _=>?_|refine kK' fun _=>?_|refine kU' ?_|((first|refine kR' ?_ ?_|refine kQ' ?_ ?_);all_goals(intro hc;try simp only[hcs]at hc;try(exfalso;first|contradiction|omega))))
  exact At.item ⟨none, 0, 0, 0⟩ rfl (fun w h => h)
noncomputable def k92_56 (b1 : Nat) (b2 : Nat) : IT := ⟨34, 56, [56], fun g => .slice (some ⟨(g 56).b, 0, none⟩) 2 2, fun g => [.own (g 56).b (.cells ([.int .i64 14, .int .i64 56] : List Value).toArray 3 (0, 0))]⟩
theorem k92_56_ok (w0 : World) (b1 : Nat) (b2 : Nat) : ILoc (k92_56 b1 b2) ∧ IOk Try.prog 359 k92_ops w0 NoF [both (thr1 b1) (thr2 b2)] [(1, .slice (some ⟨b2, 0, none⟩) 2 2)] (k92_56 b1 b2) [] := by
  refine ⟨fun g g' hl => ⟨?_, ?_⟩, _, rfl, fun g h R LA e => ?_⟩
  · simp only [k92_56, hl 56 (show 56 ∈ [56] by decide)]
  · simp only [k92_56, hl 56 (show 56 ∈ [56] by decide)]
  subst e
  dsimp only [depF, depA, extF, List.cons_append, List.nil_append, List.append_eq]
  repeat'(first|(refine kK' (T := 22) fun bk => ?_)|refine kv' ?_|apply jJ|refine jE' ?_|refine jp' ?_|(apply jc;kernel_rfl)|refine kg' ?_|refine kG' ?_|refine kB' fun _=>?_|refine kA' fun _=>?_|refine kK' fun _=>?_|refine kU' ?_|((first|refine kR' ?_ ?_|refine kQ' ?_ ?_);all_goals(intro hc;try simp only[hcs]at hc;try(exfalso;first|contradiction|omega))))
  exact At.item ⟨none, bk, 0, 0⟩ rfl (fun w h => h)
noncomputable def k92_57 (b1 : Nat) (b2 : Nat) : IT := ⟨35, 57, [], fun g => .agg ([.int .i64 3, .int .i64 0, .int .i64 2] : List Value).toArray, fun g => []⟩
theorem k92_57_ok (w0 : World) (b1 : Nat) (b2 : Nat) : ILoc (k92_57 b1 b2) ∧ IOk Try.prog 359 k92_ops w0 NoF [both (thr1 b1) (thr2 b2)] [(1, .slice (some ⟨b2, 0, none⟩) 2 2)] (k92_57 b1 b2) [] := by
  refine ⟨fun g g' hl => ⟨?_, ?_⟩, _, rfl, fun g h R LA e => ?_⟩
  · simp only [k92_57]
  · simp only [k92_57]
  subst e
  dsimp only [depF, depA, extF, List.cons_append, List.nil_append, List.append_eq]
  repeat'(first|refine kv' ?_|apply jJ|refine jE' ?_|refine jp' ?_|(apply jc;kernel_rfl)|refine kg' ?_|refine kG' ?_|refine kB' fun _=>?_|refine kA' fun _=>?_|refine kK' fun _=>?_|refine kU' ?_|((first|refine kR' ?_ ?_|refine kQ' ?_ ?_);all_goals(intro hc;try simp only[hcs]at hc;try(exfalso;first|contradiction|omega))))
  exact At.item ⟨none, 0, 0, 0⟩ rfl (fun w h => h)
noncomputable def k92_58 (b1 : Nat) (b2 : Nat) : IT := ⟨36, 58, [58], fun g => .slice (some ⟨(g 58).b, 0, none⟩) 1 1, fun g => [.own (g 58).b (.cells ([.int .i64 3, .int .i64 0, .int .i64 2] : List Value).toArray 34 (0, 0))]⟩
theorem k92_58_ok (w0 : World) (b1 : Nat) (b2 : Nat) : ILoc (k92_58 b1 b2) ∧ IOk Try.prog 359 k92_ops w0 NoF [both (thr1 b1) (thr2 b2)] [(1, .slice (some ⟨b2, 0, none⟩) 2 2)] (k92_58 b1 b2) [k92_57 b1 b2] := by
  refine ⟨fun g g' hl => ⟨?_, ?_⟩, _, rfl, fun g h R LA e => ?_⟩
  · simp only [k92_58, hl 58 (show 58 ∈ [58] by decide)]
  · simp only [k92_58, hl 58 (show 58 ∈ [58] by decide)]
  subst e
  dsimp only [depF, depA, extF, k92_57, List.cons_append, List.nil_append, List.append_eq]
  repeat'(first|(refine kK' (T := 23) fun bk => ?_)|refine kv' ?_|apply jJ|refine jE' ?_|refine jp' ?_|(apply jc;kernel_rfl)|refine kg' ?_|refine kG' ?_|refine kB' fun _=>?_|refine kA' fun _=>?_|refine kK' fun _=>?_|refine kU' ?_|((first|refine kR' ?_ ?_|refine kQ' ?_ ?_);all_goals(intro hc;try simp only[hcs]at hc;try(exfalso;first|contradiction|omega))))
  exact At.item ⟨none, bk, 0, 0⟩ rfl (fun w h => h)
noncomputable def k92_59 (b1 : Nat) (b2 : Nat) : IT := ⟨37, 59, [56, 58], fun g => .agg ([.slice (some ⟨(g 56).b, 0, none⟩) 2 2, .slice (some ⟨(g 58).b, 0, none⟩) 1 1] : List Value).toArray, fun g => []⟩
theorem k92_59_ok (w0 : World) (b1 : Nat) (b2 : Nat) : ILoc (k92_59 b1 b2) ∧ IOk Try.prog 359 k92_ops w0 NoF [both (thr1 b1) (thr2 b2)] [(1, .slice (some ⟨b2, 0, none⟩) 2 2)] (k92_59 b1 b2) [k92_56 b1 b2, k92_58 b1 b2] := by
  refine ⟨fun g g' hl => ⟨?_, ?_⟩, _, rfl, fun g h R LA e => ?_⟩
  · simp only [k92_59, hl 56 (show 56 ∈ [56, 58] by decide), hl 58 (show 58 ∈ [56, 58] by decide)]
  · simp only [k92_59, hl 56 (show 56 ∈ [56, 58] by decide), hl 58 (show 58 ∈ [56, 58] by decide)]
  subst e
  dsimp only [depF, depA, extF, k92_56, k92_58, List.cons_append, List.nil_append, List.append_eq]
  repeat'(first|refine kv' ?_|apply jJ|refine jE' ?_|refine jp' ?_|(apply jc;kernel_rfl)|refine kg' ?_|refine kG' ?_|refine kB' fun _=>?_|refine kA' fun _=>?_|refine kK' fun _=>?_|refine kU' ?_|((first|refine kR' ?_ ?_|refine kQ' ?_ ?_);all_goals(intro hc;try simp only[hcs]at hc;try(exfalso;first|contradiction|omega))))
  exact At.item ⟨none, 0, 0, 0⟩ rfl (fun w h => h)
noncomputable def k92_60 (b1 : Nat) (b2 : Nat) : IT := ⟨38, 60, [60], fun g => .slice (some ⟨(g 60).b, 0, none⟩) 1 1, fun g => [.own (g 60).b (.cells ([.int .i64 14] : List Value).toArray 3 (0, 0))]⟩
theorem k92_60_ok (w0 : World) (b1 : Nat) (b2 : Nat) : ILoc (k92_60 b1 b2) ∧ IOk Try.prog 359 k92_ops w0 NoF [both (thr1 b1) (thr2 b2)] [(1, .slice (some ⟨b2, 0, none⟩) 2 2)] (k92_60 b1 b2) [] := by
  refine ⟨fun g g' hl => ⟨?_, ?_⟩, _, rfl, fun g h R LA e => ?_⟩
  · simp only [k92_60, hl 60 (show 60 ∈ [60] by decide)]
  · simp only [k92_60, hl 60 (show 60 ∈ [60] by decide)]
  subst e
  dsimp only [depF, depA, extF, List.cons_append, List.nil_append, List.append_eq]
  repeat'(first|(refine kK' (T := 22) fun bk => ?_)|refine kv' ?_|apply jJ|refine jE' ?_|refine jp' ?_|(apply jc;kernel_rfl)|refine kg' ?_|refine kG' ?_|refine kB' fun _=>?_|refine kA' fun _=>?_|refine kK' fun _=>?_|refine kU' ?_|((first|refine kR' ?_ ?_|refine kQ' ?_ ?_);all_goals(intro hc;try simp only[hcs]at hc;try(exfalso;first|contradiction|omega))))
  exact At.item ⟨none, bk, 0, 0⟩ rfl (fun w h => h)
noncomputable def k92_61 (b1 : Nat) (b2 : Nat) : IT := ⟨39, 61, [], fun g => .agg ([.int .i64 3, .int .i64 0, .int .i64 0] : List Value).toArray, fun g => []⟩
theorem k92_61_ok (w0 : World) (b1 : Nat) (b2 : Nat) : ILoc (k92_61 b1 b2) ∧ IOk Try.prog 359 k92_ops w0 NoF [both (thr1 b1) (thr2 b2)] [(1, .slice (some ⟨b2, 0, none⟩) 2 2)] (k92_61 b1 b2) [] := by
  refine ⟨fun g g' hl => ⟨?_, ?_⟩, _, rfl, fun g h R LA e => ?_⟩
  · simp only [k92_61]
  · simp only [k92_61]
  subst e
  dsimp only [depF, depA, extF, List.cons_append, List.nil_append, List.append_eq]
  repeat'(first|refine kv' ?_|apply jJ|refine jE' ?_|refine jp' ?_|(apply jc;kernel_rfl)|refine kg' ?_|refine kG' ?_|refine kB' fun _=>?_|refine kA' fun _=>?_|refine kK' fun _=>?_|refine kU' ?_|((first|refine kR' ?_ ?_|refine kQ' ?_ ?_);all_goals(intro hc;try simp only[hcs]at hc;try(exfalso;first|contradiction|omega))))
  exact At.item ⟨none, 0, 0, 0⟩ rfl (fun w h => h)
noncomputable def k92_62 (b1 : Nat) (b2 : Nat) : IT := ⟨40, 62, [62], fun g => .slice (some ⟨(g 62).b, 0, none⟩) 1 1, fun g => [.own (g 62).b (.cells ([.int .i64 3, .int .i64 0, .int .i64 0] : List Value).toArray 34 (0, 0))]⟩
theorem k92_62_ok (w0 : World) (b1 : Nat) (b2 : Nat) : ILoc (k92_62 b1 b2) ∧ IOk Try.prog 359 k92_ops w0 NoF [both (thr1 b1) (thr2 b2)] [(1, .slice (some ⟨b2, 0, none⟩) 2 2)] (k92_62 b1 b2) [k92_61 b1 b2] := by
  refine ⟨fun g g' hl => ⟨?_, ?_⟩, _, rfl, fun g h R LA e => ?_⟩
  · simp only [k92_62, hl 62 (show 62 ∈ [62] by decide)]
  · simp only [k92_62, hl 62 (show 62 ∈ [62] by decide)]
  subst e
  dsimp only [depF, depA, extF, k92_61, List.cons_append, List.nil_append, List.append_eq]
  repeat'(first|(refine kK' (T := 23) fun bk => ?_)|refine kv' ?_|apply jJ|refine jE' ?_|refine jp' ?_|(apply jc;kernel_rfl)|refine kg' ?_|refine kG' ?_|refine kB' fun _=>?_|refine kA' fun _=>?_|refine kK' fun _=>?_|refine kU' ?_|((first|refine kR' ?_ ?_|refine kQ' ?_ ?_);all_goals(intro hc;try simp only[hcs]at hc;try(exfalso;first|contradiction|omega))))
  exact At.item ⟨none, bk, 0, 0⟩ rfl (fun w h => h)
noncomputable def k92_63 (b1 : Nat) (b2 : Nat) : IT := ⟨41, 63, [60, 62], fun g => .agg ([.slice (some ⟨(g 60).b, 0, none⟩) 1 1, .slice (some ⟨(g 62).b, 0, none⟩) 1 1] : List Value).toArray, fun g => []⟩
theorem k92_63_ok (w0 : World) (b1 : Nat) (b2 : Nat) : ILoc (k92_63 b1 b2) ∧ IOk Try.prog 359 k92_ops w0 NoF [both (thr1 b1) (thr2 b2)] [(1, .slice (some ⟨b2, 0, none⟩) 2 2)] (k92_63 b1 b2) [k92_60 b1 b2, k92_62 b1 b2] := by
  refine ⟨fun g g' hl => ⟨?_, ?_⟩, _, rfl, fun g h R LA e => ?_⟩
  · simp only [k92_63, hl 60 (show 60 ∈ [60, 62] by decide), hl 62 (show 62 ∈ [60, 62] by decide)]
  · simp only [k92_63, hl 60 (show 60 ∈ [60, 62] by decide), hl 62 (show 62 ∈ [60, 62] by decide)]
  subst e
  dsimp only [depF, depA, extF, k92_60, k92_62, List.cons_append, List.nil_append, List.append_eq]
  repeat'(first|refine kv' ?_|apply jJ|refine jE' ?_|refine jp' ?_|(apply jc;kernel_rfl)|refine kg' ?_|refine kG' ?_|refine kB' fun _=>?_|refine kA' fun _=>?_|refine kK' fun _=>?_|refine kU' ?_|((first|refine kR' ?_ ?_|refine kQ' ?_ ?_);all_goals(intro hc;try simp only[hcs]at hc;try(exfalso;first|contradiction|omega))))
  exact At.item ⟨none, 0, 0, 0⟩ rfl (fun w h => h)
noncomputable def k92_64 (b1 : Nat) (b2 : Nat) : IT := ⟨42, 64, [64], fun g => .slice (some ⟨(g 64).b, 0, none⟩) 2 2, fun g => [.own (g 64).b (.cells ([.int .i64 14, .int .i64 56] : List Value).toArray 3 (0, 0))]⟩
theorem k92_64_ok (w0 : World) (b1 : Nat) (b2 : Nat) : ILoc (k92_64 b1 b2) ∧ IOk Try.prog 359 k92_ops w0 NoF [both (thr1 b1) (thr2 b2)] [(1, .slice (some ⟨b2, 0, none⟩) 2 2)] (k92_64 b1 b2) [] := by
  refine ⟨fun g g' hl => ⟨?_, ?_⟩, _, rfl, fun g h R LA e => ?_⟩
  · simp only [k92_64, hl 64 (show 64 ∈ [64] by decide)]
  · simp only [k92_64, hl 64 (show 64 ∈ [64] by decide)]
  subst e
  dsimp only [depF, depA, extF, List.cons_append, List.nil_append, List.append_eq]
  repeat'(first|(refine kK' (T := 22) fun bk => ?_)|refine kv' ?_|apply jJ|refine jE' ?_|refine jp' ?_|(apply jc;kernel_rfl)|refine kg' ?_|refine kG' ?_|refine kB' fun _=>?_|refine kA' fun _=>?_|refine kK' fun _=>?_|refine kU' ?_|((first|refine kR' ?_ ?_|refine kQ' ?_ ?_);all_goals(intro hc;try simp only[hcs]at hc;try(exfalso;first|contradiction|omega))))
  exact At.item ⟨none, bk, 0, 0⟩ rfl (fun w h => h)
noncomputable def k92_65 (b1 : Nat) (b2 : Nat) : IT := ⟨43, 65, [], fun g => .agg ([.int .i64 3, .int .i64 (-1), .int .i64 1] : List Value).toArray, fun g => []⟩
theorem k92_65_ok (w0 : World) (b1 : Nat) (b2 : Nat) : ILoc (k92_65 b1 b2) ∧ IOk Try.prog 359 k92_ops w0 NoF [both (thr1 b1) (thr2 b2)] [(1, .slice (some ⟨b2, 0, none⟩) 2 2)] (k92_65 b1 b2) [] := by
  refine ⟨fun g g' hl => ⟨?_, ?_⟩, _, rfl, fun g h R LA e => ?_⟩
  · simp only [k92_65]
  · simp only [k92_65]
  subst e
  dsimp only [depF, depA, extF, List.cons_append, List.nil_append, List.append_eq]
  repeat'(first|refine kv' ?_|apply jJ|refine jE' ?_|refine jp' ?_|(apply jc;kernel_rfl)|refine kg' ?_|refine kG' ?_|refine kB' fun _=>?_|refine kA' fun _=>?_|refine kK' fun _=>?_|refine kU' ?_|((first|refine kR' ?_ ?_|refine kQ' ?_ ?_);all_goals(intro hc;try simp only[hcs]at hc;try(exfalso;first|contradiction|omega))))
  exact At.item ⟨none, 0, 0, 0⟩ rfl (fun w h => h)
noncomputable def k92_66 (b1 : Nat) (b2 : Nat) : IT := ⟨44, 66, [66], fun g => .slice (some ⟨(g 66).b, 0, none⟩) 1 1, fun g => [.own (g 66).b (.cells ([.int .i64 3, .int .i64 (-1), .int .i64 1] : List Value).toArray 34 (0, 0))]⟩
theorem k92_66_ok (w0 : World) (b1 : Nat) (b2 : Nat) : ILoc (k92_66 b1 b2) ∧ IOk Try.prog 359 k92_ops w0 NoF [both (thr1 b1) (thr2 b2)] [(1, .slice (some ⟨b2, 0, none⟩) 2 2)] (k92_66 b1 b2) [k92_65 b1 b2] := by
  refine ⟨fun g g' hl => ⟨?_, ?_⟩, _, rfl, fun g h R LA e => ?_⟩
  · simp only [k92_66, hl 66 (show 66 ∈ [66] by decide)]
  · simp only [k92_66, hl 66 (show 66 ∈ [66] by decide)]
  subst e
  dsimp only [depF, depA, extF, k92_65, List.cons_append, List.nil_append, List.append_eq]
  repeat'(first|(refine kK' (T := 23) fun bk => ?_)|refine kv' ?_|apply jJ|refine jE' ?_|refine jp' ?_|(apply jc;kernel_rfl)|refine kg' ?_|refine kG' ?_|refine kB' fun _=>?_|refine kA' fun _=>?_|refine kK' fun _=>?_|refine kU' ?_|((first|refine kR' ?_ ?_|refine kQ' ?_ ?_);all_goals(intro hc;try simp only[hcs]at hc;try(exfalso;first|contradiction|omega))))
  exact At.item ⟨none, bk, 0, 0⟩ rfl (fun w h => h)
noncomputable def k92_67 (b1 : Nat) (b2 : Nat) : IT := ⟨45, 67, [64, 66], fun g => .agg ([.slice (some ⟨(g 64).b, 0, none⟩) 2 2, .slice (some ⟨(g 66).b, 0, none⟩) 1 1] : List Value).toArray, fun g => []⟩
theorem k92_67_ok (w0 : World) (b1 : Nat) (b2 : Nat) : ILoc (k92_67 b1 b2) ∧ IOk Try.prog 359 k92_ops w0 NoF [both (thr1 b1) (thr2 b2)] [(1, .slice (some ⟨b2, 0, none⟩) 2 2)] (k92_67 b1 b2) [k92_64 b1 b2, k92_66 b1 b2] := by
  refine ⟨fun g g' hl => ⟨?_, ?_⟩, _, rfl, fun g h R LA e => ?_⟩
  · simp only [k92_67, hl 64 (show 64 ∈ [64, 66] by decide), hl 66 (show 66 ∈ [64, 66] by decide)]
  · simp only [k92_67, hl 64 (show 64 ∈ [64, 66] by decide), hl 66 (show 66 ∈ [64, 66] by decide)]
  subst e
  dsimp only [depF, depA, extF, k92_64, k92_66, List.cons_append, List.nil_append, List.append_eq]
  repeat'(first|refine kv' ?_|apply jJ|refine jE' ?_|refine jp' ?_|(apply jc;kernel_rfl)|refine kg' ?_|refine kG' ?_|refine kB' fun _=>?_|refine kA' fun _=>?_|refine kK' fun _=>?_|refine kU' ?_|((first|refine kR' ?_ ?_|refine kQ' ?_ ?_);all_goals(intro hc;try simp only[hcs]at hc;try(exfalso;first|contradiction|omega))))
  exact At.item ⟨none, 0, 0, 0⟩ rfl (fun w h => h)
noncomputable def k92_68 (b1 : Nat) (b2 : Nat) : IT := ⟨46, 68, [68], fun g => .slice (some ⟨(g 68).b, 0, none⟩) 2 2, fun g => [.own (g 68).b (.cells ([.int .i64 14, .int .i64 56] : List Value).toArray 3 (0, 0))]⟩
theorem k92_68_ok (w0 : World) (b1 : Nat) (b2 : Nat) : ILoc (k92_68 b1 b2) ∧ IOk Try.prog 359 k92_ops w0 NoF [both (thr1 b1) (thr2 b2)] [(1, .slice (some ⟨b2, 0, none⟩) 2 2)] (k92_68 b1 b2) [] := by
  refine ⟨fun g g' hl => ⟨?_, ?_⟩, _, rfl, fun g h R LA e => ?_⟩
  · simp only [k92_68, hl 68 (show 68 ∈ [68] by decide)]
  · simp only [k92_68, hl 68 (show 68 ∈ [68] by decide)]
  subst e
  dsimp only [depF, depA, extF, List.cons_append, List.nil_append, List.append_eq]
  repeat'(first|(refine kK' (T := 22) fun bk => ?_)|refine kv' ?_|apply jJ|refine jE' ?_|refine jp' ?_|(apply jc;kernel_rfl)|refine kg' ?_|refine kG' ?_|refine kB' fun _=>?_|refine kA' fun _=>?_|refine kK' fun _=>?_|refine kU' ?_|((first|refine kR' ?_ ?_|refine kQ' ?_ ?_);all_goals(intro hc;try simp only[hcs]at hc;try(exfalso;first|contradiction|omega))))
  exact At.item ⟨none, bk, 0, 0⟩ rfl (fun w h => h)
noncomputable def k92_69 (b1 : Nat) (b2 : Nat) : IT := ⟨47, 69, [], fun g => .slice (some ⟨b2, 0, none⟩) 2 2, fun g => []⟩
theorem k92_69_ok (w0 : World) (b1 : Nat) (b2 : Nat) : ILoc (k92_69 b1 b2) ∧ IOk Try.prog 359 k92_ops w0 NoF [both (thr1 b1) (thr2 b2)] [(1, .slice (some ⟨b2, 0, none⟩) 2 2)] (k92_69 b1 b2) [] := by
  refine ⟨fun g g' hl => ⟨?_, ?_⟩, _, rfl, fun g h R LA e => ?_⟩
  · simp only [k92_69]
  · simp only [k92_69]
  subst e
  dsimp only [depF, depA, extF, List.cons_append, List.nil_append, List.append_eq]
  repeat'(first|refine kv' ?_|apply jJ|refine jE' ?_|refine jp' ?_|(apply jc;kernel_rfl)|refine kg' ?_|refine kG' ?_|refine kB' fun _=>?_|refine kA' fun _=>?_|refine kK' fun _=>?_|refine kU' ?_|((first|refine kR' ?_ ?_|refine kQ' ?_ ?_);all_goals(intro hc;try simp only[hcs]at hc;try(exfalso;first|contradiction|omega))))
  exact At.item ⟨none, 0, 0, 0⟩ rfl (fun w h => h)
noncomputable def k92_70 (b1 : Nat) (b2 : Nat) : IT := ⟨48, 70, [], fun g => .pointer (some ⟨b2, 0, none⟩), fun g => []⟩
theorem k92_70_ok (w0 : World) (b1 : Nat) (b2 : Nat) : ILoc (k92_70 b1 b2) ∧ IOk Try.prog 359 k92_ops w0 NoF [both (thr1 b1) (thr2 b2)] [(1, .slice (some ⟨b2, 0, none⟩) 2 2)] (k92_70 b1 b2) [k92_69 b1 b2] := by
  refine ⟨fun g g' hl => ⟨?_, ?_⟩, _, rfl, fun g h R LA e => ?_⟩
  · simp only [k92_70]
  · simp only [k92_70]
  subst e
  dsimp only [depF, depA, extF, k92_69, List.cons_append, List.nil_append, List.append_eq]
  repeat'(first|(apply LR.ev; (· apply Ev.indexAddr; (· exact rfl); (· exact rfl); (· decide); (· decide)); (· exact rfl))|refine kv' ?_|apply jJ|refine jE' ?_|refine jp' ?_|(apply jc;kernel_rfl)|refine kg' ?_|refine kG' ?_|refine kB' fun _=>?_|refine kA' fun _=>?_|refine kK' fun _=>?_|refine kU' ?_|((first|refine kR' ?_ ?_|refine kQ' ?_ ?_);all_goals(intro hc;try simp only[hcs]at hc;try(exfalso;first|contradiction|omega))))
  exact At.item ⟨none, 0, 0, 0⟩ rfl (fun w h => h)
noncomputable def k92_71 (b1 : Nat) (b2 : Nat) : IT := ⟨49, 71, [], fun g => .agg ([.int .i64 3, .int .i64 0, .int .i64 1] : List Value).toArray, fun g => []⟩
theorem k92_71_ok (w0 : World) (b1 : Nat) (b2 : Nat) : ILoc (k92_71 b1 b2) ∧ IOk Try.prog 359 k92_ops w0 NoF [both (thr1 b1) (thr2 b2)] [(1, .slice (some ⟨b2, 0, none⟩) 2 2)] (k92_71 b1 b2) [k92_70 b1 b2] := by
  refine ⟨fun g g' hl => ⟨?_, ?_⟩, _, rfl, fun g h R LA e => ?_⟩
  · simp only [k92_71]
  · simp only [k92_71]
  subst e
  dsimp only [depF, depA, extF, k92_70, List.cons_append, List.nil_append, List.append_eq]
  repeat'(first|(apply LR.ev; (· apply Ev.load_agg_at (cs := [.int .i64 3, .int .i64 0, .int .i64 1]); (· exact rfl); (· exact rfl); (· intro w' hw'; exact gv_one (thR (hw'.holds (both (thr1 b1) (thr2 b2)) memZ)).g 0 (by decide) rfl)); (· exact rfl))|refine kv' ?_|apply jJ|refine jE' ?_|refine jp' ?_|(apply jc;kernel_rfl)|refine kg' ?_|refine kG' ?_|refine kB' fun _=>?_|refine kA' fun _=>?_|refine kK' fun _=>?_|refine kU' ?_|((first|refine kR' ?_ ?_|refine kQ' ?_ ?_);all_goals(intro hc;try simp only[hcs]at hc;try(exfalso;first|contradiction|omega))))
  exact At.item ⟨none, 0, 0, 0⟩ rfl (fun w h => h)
noncomputable def k92_72 (b1 : Nat) (b2 : Nat) : IT := ⟨50, 72, [], fun g => .slice (some ⟨b2, 0, none⟩) 2 2, fun g => []⟩
theorem k92_72_ok (w0 : World) (b1 : Nat) (b2 : Nat) : ILoc (k92_72 b1 b2) ∧ IOk Try.prog 359 k92_ops w0 NoF [both (thr1 b1) (thr2 b2)] [(1, .slice (some ⟨b2, 0, none⟩) 2 2)] (k92_72 b1 b2) [] := by
  refine ⟨fun g g' hl => ⟨?_, ?_⟩, _, rfl, fun g h R LA e => ?_⟩
  · simp only [k92_72]
  · simp only [k92_72]
  subst e
  dsimp only [depF, depA, extF, List.cons_append, List.nil_append, List.append_eq]
  repeat'(first|refine kv' ?_|apply jJ|refine jE' ?_|refine jp' ?_|(apply jc;kernel_rfl)|refine kg' ?_|refine kG' ?_|refine kB' fun _=>?_|refine kA' fun _=>?_|refine kK' fun _=>?_|refine kU' ?_|((first|refine kR' ?_ ?_|refine kQ' ?_ ?_);all_goals(intro hc;try simp only[hcs]at hc;try(exfalso;first|contradiction|omega))))
  exact At.item ⟨none, 0, 0, 0⟩ rfl (fun w h => h)
noncomputable def k92_73 (b1 : Nat) (b2 : Nat) : IT := ⟨51, 73, [], fun g => .pointer (some ⟨b2, 0, none⟩), fun g => []⟩
theorem k92_73_ok (w0 : World) (b1 : Nat) (b2 : Nat) : ILoc (k92_73 b1 b2) ∧ IOk Try.prog 359 k92_ops w0 NoF [both (thr1 b1) (thr2 b2)] [(1, .slice (some ⟨b2, 0, none⟩) 2 2)] (k92_73 b1 b2) [k92_72 b1 b2] := by
  refine ⟨fun g g' hl => ⟨?_, ?_⟩, _, rfl, fun g h R LA e => ?_⟩
  · simp only [k92_73]
  · simp only [k92_73]
  subst e
  dsimp only [depF, depA, extF, k92_72, List.cons_append, List.nil_append, List.append_eq]
  repeat'(first|(apply LR.ev; (· apply Ev.indexAddr; (· exact rfl); (· exact rfl); (· decide); (· decide)); (· exact rfl))|refine kv' ?_|apply jJ|refine jE' ?_|refine jp' ?_|(apply jc;kernel_rfl)|refine kg' ?_|refine kG' ?_|refine kB' fun _=>?_|refine kA' fun _=>?_|refine kK' fun _=>?_|refine kU' ?_|((first|refine kR' ?_ ?_|refine kQ' ?_ ?_);all_goals(intro hc;try simp only[hcs]at hc;try(exfalso;first|contradiction|omega))))
  exact At.item ⟨none, 0, 0, 0⟩ rfl (fun w h => h)
noncomputable def k92_74 (b1 : Nat) (b2 : Nat) : IT := ⟨52, 74, [], fun g => .agg ([.int .i64 3, .int .i64 0, .int .i64 1] : List Value).toArray, fun g => []⟩
theorem k92_74_ok (w0 : World) (b1 : Nat) (b2 : Nat) : ILoc (k92_74 b1 b2) ∧ IOk Try.prog 359 k92_ops w0 NoF [both (thr1 b1) (thr2 b2)] [(1, .slice (some ⟨b2, 0, none⟩) 2 2)] (k92_74 b1 b2) [k92_73 b1 b2] := by
  refine ⟨fun g g' hl => ⟨?_, ?_⟩, _, rfl, fun g h R LA e => ?_⟩
  · simp only [k92_74]
  · simp only [k92_74]
  subst e
  dsimp only [depF, depA, extF, k92_73, List.cons_append, List.nil_append, List.append_eq]
  repeat'(first|(apply LR.ev; (· apply Ev.load_agg_at (cs := [.int .i64 3, .int .i64 0, .int .i64 1]); (· exact rfl); (· exact rfl); (· intro w' hw'; exact gv_one (thR (hw'.holds (both (thr1 b1) (thr2 b2)) memZ)).g 0 (by decide) rfl)); (· exact rfl))|refine kv' ?_|apply jJ|refine jE' ?_|refine jp' ?_|(apply jc;kernel_rfl)|refine kg' ?_|refine kG' ?_|refine kB' fun _=>?_|refine kA' fun _=>?_|refine kK' fun _=>?_|refine kU' ?_|((first|refine kR' ?_ ?_|refine kQ' ?_ ?_);all_goals(intro hc;try simp only[hcs]at hc;try(exfalso;first|contradiction|omega))))
  exact At.item ⟨none, 0, 0, 0⟩ rfl (fun w h => h)
noncomputable def k92_75 (b1 : Nat) (b2 : Nat) : IT := ⟨53, 75, [75], fun g => .slice (some ⟨(g 75).b, 0, none⟩) 2 2, fun g => [.own (g 75).b (.cells ([.int .i64 3, .int .i64 0, .int .i64 1, .int .i64 3, .int .i64 0, .int .i64 1] : List Value).toArray 34 (0, 0))]⟩
theorem k92_75_ok (w0 : World) (b1 : Nat) (b2 : Nat) : ILoc (k92_75 b1 b2) ∧ IOk Try.prog 359 k92_ops w0 NoF [both (thr1 b1) (thr2 b2)] [(1, .slice (some ⟨b2, 0, none⟩) 2 2)] (k92_75 b1 b2) [k92_71 b1 b2, k92_74 b1 b2] := by
  refine ⟨fun g g' hl => ⟨?_, ?_⟩, _, rfl, fun g h R LA e => ?_⟩
  · simp only [k92_75, hl 75 (show 75 ∈ [75] by decide)]
  · simp only [k92_75, hl 75 (show 75 ∈ [75] by decide)]
  subst e
  dsimp only [depF, depA, extF, k92_71, k92_74, List.cons_append, List.nil_append, List.append_eq]
  repeat'(first|(refine kK' (T := 23) fun bk => ?_)|refine kv' ?_|apply jJ|refine jE' ?_|refine jp' ?_|(apply jc;kernel_rfl)|refine kg' ?_|refine kG' ?_|refine kB' fun _=>?_|refine kA' fun _=>?_|refine kK' fun _=>?_|refine kU' ?_|((first|refine kR' ?_ ?_|refine kQ' ?_ ?_);all_goals(intro hc;try simp only[hcs]at hc;try(exfalso;first|contradiction|omega))))
  exact At.item ⟨none, bk, 0, 0⟩ rfl (fun w h => h)
noncomputable def k92_76 (b1 : Nat) (b2 : Nat) : IT := ⟨54, 76, [68, 75], fun g => .agg ([.slice (some ⟨(g 68).b, 0, none⟩) 2 2, .slice (some ⟨(g 75).b, 0, none⟩) 2 2] : List Value).toArray, fun g => []⟩
theorem k92_76_ok (w0 : World) (b1 : Nat) (b2 : Nat) : ILoc (k92_76 b1 b2) ∧ IOk Try.prog 359 k92_ops w0 NoF [both (thr1 b1) (thr2 b2)] [(1, .slice (some ⟨b2, 0, none⟩) 2 2)] (k92_76 b1 b2) [k92_68 b1 b2, k92_75 b1 b2] := by
  refine ⟨fun g g' hl => ⟨?_, ?_⟩, _, rfl, fun g h R LA e => ?_⟩
  · simp only [k92_76, hl 68 (show 68 ∈ [68, 75] by decide), hl 75 (show 75 ∈ [68, 75] by decide)]
  · simp only [k92_76, hl 68 (show 68 ∈ [68, 75] by decide), hl 75 (show 75 ∈ [68, 75] by decide)]
  subst e
  dsimp only [depF, depA, extF, k92_68, k92_75, List.cons_append, List.nil_append, List.append_eq]
  repeat'(first|refine kv' ?_|apply jJ|refine jE' ?_|refine jp' ?_|(apply jc;kernel_rfl)|refine kg' ?_|refine kG' ?_|refine kB' fun _=>?_|refine kA' fun _=>?_|refine kK' fun _=>?_|refine kU' ?_|((first|refine kR' ?_ ?_|refine kQ' ?_ ?_);all_goals(intro hc;try simp only[hcs]at hc;try(exfalso;first|contradiction|omega))))
  exact At.item ⟨none, 0, 0, 0⟩ rfl (fun w h => h)
noncomputable def k92_77 (b1 : Nat) (b2 : Nat) : IT := ⟨55, 77, [77], fun g => .slice (some ⟨(g 77).b, 0, none⟩) 3 3, fun g => [.own (g 77).b (.cells ([.int .i64 14, .int .i64 24, .int .i64 40] : List Value).toArray 3 (0, 0))]⟩
theorem k92_77_ok (w0 : World) (b1 : Nat) (b2 : Nat) : ILoc (k92_77 b1 b2) ∧ IOk Try.prog 359 k92_ops w0 NoF [both (thr1 b1) (thr2 b2)] [(1, .slice (some ⟨b2, 0, none⟩) 2 2)] (k92_77 b1 b2) [] := by
  refine ⟨fun g g' hl => ⟨?_, ?_⟩, _, rfl, fun g h R LA e => ?_⟩
  · simp only [k92_77, hl 77 (show 77 ∈ [77] by decide)]
  · simp only [k92_77, hl 77 (show 77 ∈ [77] by decide)]
  subst e
  dsimp only [depF, depA, extF, List.cons_append, List.nil_append, List.append_eq]
  repeat'(first|(refine kK' (T := 22) fun bk => ?_)|refine kv' ?_|apply jJ|refine jE' ?_|refine jp' ?_|(apply jc;kernel_rfl)|refine kg' ?_|refine kG' ?_|refine kB' fun _=>?_|refine kA' fun _=>?_|refine kK' fun _=>?_|refine kU' ?_|((first|refine kR' ?_ ?_|refine kQ' ?_ ?_);all_goals(intro hc;try simp only[hcs]at hc;try(exfalso;first|contradiction|omega))))
  exact At.item ⟨none, bk, 0, 0⟩ rfl (fun w h => h)
noncomputable def k92_78 (b1 : Nat) (b2 : Nat) : IT := ⟨56, 78, [], fun g => .slice (some ⟨b2, 0, none⟩) 2 2, fun g => []⟩
theorem k92_78_ok (w0 : World) (b1 : Nat) (b2 : Nat) : ILoc (k92_78 b1 b2) ∧ IOk Try.prog 359 k92_ops w0 NoF [both (thr1 b1) (thr2 b2)] [(1, .slice (some ⟨b2, 0, none⟩) 2 2)] (k92_78 b1 b2) [] := by
  refine ⟨fun g g' hl => ⟨?_, ?_⟩, _, rfl, fun g h R LA e => ?_⟩
  · simp only [k92_78]
  · simp only [k92_78]
  subst e
  dsimp only [depF, depA, extF, List.cons_append, List.nil_append, List.append_eq]
  repeat'(first|refine kv' ?_|apply jJ|refine jE' ?_|refine jp' ?_|(apply jc;kernel_rfl)|refine kg' ?_|refine kG' ?_|refine kB' fun _=>?_|refine kA' fun _=>?_|refine kK' fun _=>?_|refine kU' ?_|((first|refine kR' ?_ ?_|refine kQ' ?_ ?_);all_goals(intro hc;try simp only[hcs]at hc;try(exfalso;first|contradiction|omega))))
  exact At.item ⟨none, 0, 0, 0⟩ rfl (fun w h => h)
noncomputable def k92_79 (b1 : Nat) (b2 : Nat) : IT := ⟨57, 79, [], fun g => .pointer (some ⟨b2, 0, none⟩), fun g => []⟩
theorem k92_79_ok (w0 : World) (b1 : Nat) (b2 : Nat) : ILoc (k92_79 b1 b2) ∧ IOk Try.prog 359 k92_ops w0 NoF [both (thr1 b1) (thr2 b2)] [(1, .slice (some ⟨b2, 0, none⟩) 2 2)] (k92_79 b1 b2) [k92_78 b1 b2] := by
  refine ⟨fun g g' hl => ⟨?_, ?_⟩, _, rfl, fun g h R LA e => ?_⟩
  · simp only [k92_79]
  · simp only [k92_79]
  subst e
  dsimp only [depF, depA, extF, k92_78, List.cons_append, List.nil_append, List.append_eq]
  repeat'(first|(apply LR.ev; (· apply Ev.indexAddr; (· exact rfl); (· exact rfl); (· decide); (· decide)); (· exact rfl))|refine kv' ?_|apply jJ|refine jE' ?_|refine jp' ?_|(apply jc;kernel_rfl)|refine kg' ?_|refine kG' ?_|refine kB' fun _=>?_|refine kA' fun _=>?_|refine kK' fun _=>?_|refine kU' ?_|((first|refine kR' ?_ ?_|refine kQ' ?_ ?_);all_goals(intro hc;try simp only[hcs]at hc;try(exfalso;first|contradiction|omega))))
  exact At.item ⟨none, 0, 0, 0⟩ rfl (fun w h => h)
noncomputable def k92_80 (b1 : Nat) (b2 : Nat) : IT := ⟨58, 80, [], fun g => .agg ([.int .i64 3, .int .i64 0, .int .i64 1] : List Value).toArray, fun g => []⟩
theorem k92_80_ok (w0 : World) (b1 : Nat) (b2 : Nat) : ILoc (k92_80 b1 b2) ∧ IOk Try.prog 359 k92_ops w0 NoF [both (thr1 b1) (thr2 b2)] [(1, .slice (some ⟨b2, 0, none⟩) 2 2)] (k92_80 b1 b2) [k92_79 b1 b2] := by
  refine ⟨fun g g' hl => ⟨?_, ?_⟩, _, rfl, fun g h R LA e => ?_⟩
  · simp only [k92_80]
  · simp only [k92_80]
  subst e
  dsimp only [depF, depA, extF, k92_79, List.cons_append, List.nil_append, List.append_eq]
  repeat'(first|(apply LR.ev; (· apply Ev.load_agg_at (cs := [.int .i64 3, .int .i64 0, .int .i64 1]); (· exact rfl); (· exact rfl); (· intro w' hw'; exact gv_one (thR (hw'.holds (both (thr1 b1) (thr2 b2)) memZ)).g 0 (by decide) rfl)); (· exact rfl))|refine kv' ?_|apply jJ|refine jE' ?_|refine jp' ?_|(apply jc;kernel_rfl)|refine kg' ?_|refine kG' ?_|refine kB' fun _=>?_|refine kA' fun _=>?_|refine kK' fun _=>?_|refine kU' ?_|((first|refine kR' ?_ ?_|refine kQ' ?_ ?_);all_goals(intro hc;try simp only[hcs]at hc;try(exfalso;first|contradiction|omega))))
  exact At.item ⟨none, 0, 0, 0⟩ rfl (fun w h => h)
noncomputable def k92_81 (b1 : Nat) (b2 : Nat) : IT := ⟨59, 81, [81], fun g => .slice (some ⟨(g 81).b, 0, none⟩) 1 1, fun g => [.own (g 81).b (.cells ([.int .i64 3, .int .i64 0, .int .i64 1] : List Value).toArray 34 (0, 0))]⟩
theorem k92_81_ok (w0 : World) (b1 : Nat) (b2 : Nat) : ILoc (k92_81 b1 b2) ∧ IOk Try.prog 359 k92_ops w0 NoF [both (thr1 b1) (thr2 b2)] [(1, .slice (some ⟨b2, 0, none⟩) 2 2)] (k92_81 b1 b2) [k92_80 b1 b2] := by
  refine ⟨fun g g' hl => ⟨?_, ?_⟩, _, rfl, fun g h R LA e => ?_⟩
  · simp only [k92_81, hl 81 (show 81 ∈ [81] by decide)]
  · simp only [k92_81, hl 81 (show 81 ∈ [81] by decide)]
  subst e
  dsimp only [depF, depA, extF, k92_80, List.cons_append, List.nil_append, List.append_eq]
  repeat'(first|(refine kK' (T := 23) fun bk => ?_)|refine kv' ?_|apply jJ|refine jE' ?_|refine jp' ?_|(apply jc;kernel_rfl)|refine kg' ?_|refine kG' ?_|refine kB' fun _=>?_|refine kA' fun _=>?_|refine kK' fun _=>?_|refine kU' ?_|((first|refine kR' ?_ ?_|refine kQ' ?_ ?_);all_goals(intro hc;try simp only[hcs]at hc;try(exfalso;first|contradiction|omega))))
  exact At.item ⟨none, bk, 0, 0⟩ rfl (fun w h => h)
noncomputable def k92_82 (b1 : Nat) (b2 : Nat) : IT := ⟨60, 82, [77, 81], fun g => .agg ([.slice (some ⟨(g 77).b, 0, none⟩) 3 3, .slice (some ⟨(g 81).b, 0, none⟩) 1 1] : List Value).toArray, fun g => []⟩
theorem k92_82_ok (w0 : World) (b1 : Nat) (b2 : Nat) : ILoc (k92_82 b1 b2) ∧ IOk Try.prog 359 k92_ops w0 NoF [both (thr1 b1) (thr2 b2)] [(1, .slice (some ⟨b2, 0, none⟩) 2 2)] (k92_82 b1 b2) [k92_77 b1 b2, k92_81 b1 b2] := by
  refine ⟨fun g g' hl => ⟨?_, ?_⟩, _, rfl, fun g h R LA e => ?_⟩
  · simp only [k92_82, hl 77 (show 77 ∈ [77, 81] by decide), hl 81 (show 81 ∈ [77, 81] by decide)]
  · simp only [k92_82, hl 77 (show 77 ∈ [77, 81] by decide), hl 81 (show 81 ∈ [77, 81] by decide)]
  subst e
  dsimp only [depF, depA, extF, k92_77, k92_81, List.cons_append, List.nil_append, List.append_eq]
  repeat'(first|refine kv' ?_|apply jJ|refine jE' ?_|refine jp' ?_|(apply jc;kernel_rfl)|refine kg' ?_|refine kG' ?_|refine kB' fun _=>?_|refine kA' fun _=>?_|refine kK' fun _=>?_|refine kU' ?_|((first|refine kR' ?_ ?_|refine kQ' ?_ ?_);all_goals(intro hc;try simp only[hcs]at hc;try(exfalso;first|contradiction|omega))))
  exact At.item ⟨none, 0, 0, 0⟩ rfl (fun w h => h)
noncomputable def k92_83 (b1 : Nat) (b2 : Nat) : IT := ⟨61, 83, [83], fun g => .slice (some ⟨(g 83).b, 0, none⟩) 3 3, fun g => [.own (g 83).b (.cells ([.int .i64 10, .int .i64 12, .int .i64 6] : List Value).toArray 3 (0, 0))]⟩
theorem k92_83_ok (w0 : World) (b1 : Nat) (b2 : Nat) : ILoc (k92_83 b1 b2) ∧ IOk Try.prog 359 k92_ops w0 NoF [both (thr1 b1) (thr2 b2)] [(1, .slice (some ⟨b2, 0, none⟩) 2 2)] (k92_83 b1 b2) [] := by
  refine ⟨fun g g' hl => ⟨?_, ?_⟩, _, rfl, fun g h R LA e => ?_⟩
  · simp only [k92_83, hl 83 (show 83 ∈ [83] by decide)]
  · simp only [k92_83, hl 83 (show 83 ∈ [83] by decide)]
  subst e
  dsimp only [depF, depA, extF, List.cons_append, List.nil_append, List.append_eq]
  repeat'(first|(refine kK' (T := 22) fun bk => ?_)|refine kv' ?_|apply jJ|refine jE' ?_|refine jp' ?_|(apply jc;kernel_rfl)|refine kg' ?_|refine kG' ?_|refine kB' fun _=>?_|refine kA' fun _=>?_|refine kK' fun _=>?_|refine kU' ?_|((first|refine kR' ?_ ?_|refine kQ' ?_ ?_);all_goals(intro hc;try simp only[hcs]at hc;try(exfalso;first|contradiction|omega))))
  exact At.item ⟨none, bk, 0, 0⟩ rfl (fun w h => h)
noncomputable def k92_84 (b1 : Nat) (b2 : Nat) : IT := ⟨62, 84, [], fun g => .agg ([.int .i64 3, .int .i64 0, .int .i64 1] : List Value).toArray, fun g => []⟩
theorem k92_84_ok (w0 : World) (b1 : Nat) (b2 : Nat) : ILoc (k92_84 b1 b2) ∧ IOk Try.prog 359 k92_ops w0 NoF [both (thr1 b1) (thr2 b2)] [(1, .slice (some ⟨b2, 0, none⟩) 2 2)] (k92_84 b1 b2) [] := by
  refine ⟨fun g g' hl => ⟨?_, ?_⟩, _, rfl, fun g h R LA e => ?_⟩
  · simp only [k92_84]
  · simp only [k92_84]
  subst e
  dsimp only [depF, depA, extF, List.cons_append, List.nil_append, List.append_eq]
  repeat'(first|refine kv' ?_|apply jJ|refine jE' ?_|refine jp' ?_|(apply jc;kernel_rfl)|refine kg' ?_|refine kG' ?_|refine kB' fun _=>?_|refine kA' fun _=>?_|refine kK' fun _=>?_|refine kU' ?_|((first|refine kR' ?_ ?_|refine kQ' ?_ ?_);all_goals(intro hc;try simp only[hcs]at hc;try(exfalso;first|contradiction|omega))))
  exact At.item ⟨none, 0, 0, 0⟩ rfl (fun w h => h)
noncomputable def k92_85 (b1 : Nat) (b2 : Nat) : IT := ⟨63, 85, [], fun g => .agg ([.int .i64 2, .int .i64 1, .int .i64 2] : List Value).toArray, fun g => []⟩
theorem k92_85_ok (w0 : World) (b1 : Nat) (b2 : Nat) : ILoc (k92_85 b1 b2) ∧ IOk Try.prog 359 k92_ops w0 NoF [both (thr1 b1) (thr2 b2)] [(1, .slice (some ⟨b2, 0, none⟩) 2 2)] (k92_85 b1 b2) [] := by
  refine ⟨fun g g' hl => ⟨?_, ?_⟩, _, rfl, fun g h R LA e => ?_⟩
  · simp only [k92_85]
  · simp only [k92_85]
  subst e
  dsimp only [depF, depA, extF, List.cons_append, List.nil_append, List.append_eq]
  repeat'(first|refine kv' ?_|apply jJ|refine jE' ?_|refine jp' ?_|(apply jc;kernel_rfl)|refine kg' ?_|refine kG' ?_|refine kB' fun _=>?_|refine kA' fun _=>?_|refine kK' fun _=>?_|refine kU' ?_|((first|refine kR' ?_ ?_|refine kQ' ?_ ?_);all_goals(intro hc;try simp only[hcs]at hc;try(exfalso;first|contradiction|omega))))
  exact At.item ⟨none, 0, 0, 0⟩ rfl (fun w h => h)
noncomputable def k92_86 (b1 : Nat) (b2 : Nat) : IT := ⟨64, 86, [], fun g => .agg ([.int .i64 1, .int .i64 0, .int .i64 2] : List Value).toArray, fun g => []⟩
theorem k92_86_ok (w0 : World) (b1 : Nat) (b2 : Nat) : ILoc (k92_86 b1 b2) ∧ IOk Try.prog 359 k92_ops w0 NoF [both (thr1 b1) (thr2 b2)] [(1, .slice (some ⟨b2, 0, none⟩) 2 2)] (k92_86 b1 b2) [] := by
  refine ⟨fun g g' hl => ⟨?_, ?_⟩, _, rfl, fun g h R LA e => ?_⟩
  · simp only [k92_86]
  · simp only [k92_86]
  subst e
  dsimp only [depF, depA, extF, List.cons_append, List.nil_append, List.append_eq]
  repeat'(first|refine kv' ?_|apply jJ|refine jE' ?_|refine jp' ?_|(apply jc;kernel_rfl)|refine kg' ?_|refine kG' ?_|refine kB' fun _=>?_|refine kA' fun _=>?_|refine kK' fun _=>?_|refine kU' ?_|((first|refine kR' ?_ ?_|refine kQ' ?_ ?_);all_goals(intro hc;try simp only[hcs]at hc;try(exfalso;first|contradiction|omega))))
  exact At.item ⟨none, 0, 0, 0⟩ rfl (fun w h => h)
noncomputable def k92_87 (b1 : Nat) (b2 : Nat) : IT := ⟨65, 87, [87], fun g => .slice (some ⟨(g 87).b, 0, none⟩) 3 3, fun g => [.own (g 87).b (.cells ([.int .i64 3, .int .i64 0, .int .i64 1, .int .i64 2, .int .i64 1, .int .i64 2, .int .i64 1, .int .i64 0, .int .i64 2] : List Value).toArray 34 (0, 0))]⟩
theorem k92_87_ok (w0 : World) (b1 : Nat) (b2 : Nat) : ILoc (k92_87 b1 b2) ∧ IOk Try.prog 359 k92_ops w0 NoF [both (thr1 b1) (thr2 b2)] [(1, .slice (some ⟨b2, 0, none⟩) 2 2)] (k92_87 b1 b2) [k92_84 b1 b2, k92_85 b1 b2, k92_86 b1 b2] := by
  refine ⟨fun g g' hl => ⟨?_, ?_⟩, _, rfl, fun g h R LA e => ?_⟩
  · simp only [k92_87, hl 87 (show 87 ∈ [87] by decide)]
  · simp only [k92_87, hl 87 (show 87 ∈ [87] by decide)]
  subst e
  dsimp only [depF, depA, extF, k92_84, k92_85, k92_86, List.cons_append, List.nil_append, List.append_eq]
  repeat'(first|(refine kK' (T := 23) fun bk => ?_)|refine kv' ?_|apply jJ|refine jE' ?_|refine jp' ?_|(apply jc;kernel_rfl)|refine kg' ?_|refine kG' ?_|refine kB' fun _=>?_|refine kA' fun _=>?_|refine kK' fun _=>?_|refine kU' ?_|((first|refine kR' ?_ ?_|refine kQ' ?_ ?_);all_goals(intro hc;try simp only[hcs]at hc;try(exfalso;first|contradiction|omega))))
  exact At.item ⟨none, bk, 0, 0⟩ rfl (fun w h => h)
noncomputable def k92_88 (b1 : Nat) (b2 : Nat) : IT := ⟨66, 88, [83, 87], fun g => .agg ([.slice (some ⟨(g 83).b, 0, none⟩) 3 3, .slice (some ⟨(g 87).b, 0, none⟩) 3 3] : List Value).toArray, fun g => []⟩
theorem k92_88_ok (w0 : World) (b1 : Nat) (b2 : Nat) : ILoc (k92_88 b1 b2) ∧ IOk Try.prog 359 k92_ops w0 NoF [both (thr1 b1) (thr2 b2)] [(1, .slice (some ⟨b2, 0, none⟩) 2 2)] (k92_88 b1 b2) [k92_83 b1 b2, k92_87 b1 b2] := by
  refine ⟨fun g g' hl => ⟨?_, ?_⟩, _, rfl, fun g h R LA e => ?_⟩
  · simp only [k92_88, hl 83 (show 83 ∈ [83, 87] by decide), hl 87 (show 87 ∈ [83, 87] by decide)]
  · simp only [k92_88, hl 83 (show 83 ∈ [83, 87] by decide), hl 87 (show 87 ∈ [83, 87] by decide)]
  subst e
  dsimp only [depF, depA, extF, k92_83, k92_87, List.cons_append, List.nil_append, List.append_eq]
  repeat'(first|refine kv' ?_|apply jJ|refine jE' ?_|refine jp' ?_|(apply jc;kernel_rfl)|refine kg' ?_|refine kG' ?_|refine kB' fun _=>?_|refine kA' fun _=>?_|refine kK' fun _=>?_|refine kU' ?_|((first|refine kR' ?_ ?_|refine kQ' ?_ ?_);all_goals(intro hc;try simp only[hcs]at hc;try(exfalso;first|contradiction|omega))))
  exact At.item ⟨none, 0, 0, 0⟩ rfl (fun w h => h)
noncomputable def k92_89 (b1 : Nat) (b2 : Nat) : IT := ⟨67, 89, [23, 27, 29, 31, 33, 35, 37, 45, 47, 50, 52, 54, 56, 58, 60, 62, 64, 66, 68, 75, 77, 81, 83, 87, 89], fun g => .slice (some ⟨(g 89).b, 0, none⟩) 16 16, fun g => [.own (g 89).b (.cells ([.slice none 0 0, .slice none 0 0, .slice (some ⟨(g 23).b, 0, none⟩) 3 3, .slice (some ⟨b2, 3, none⟩) 1 1, .slice (some ⟨(g 27).b, 0, none⟩) 1 1, .slice none 0 0, .slice (some ⟨(g 29).b, 0, none⟩) 1 1, .slice none 0 0, .slice (some ⟨(g 31).b, 0, none⟩) 1 1, .slice none 0 0, .slice (some ⟨(g 33).b, 0, none⟩) 1 1, .slice none 0 0, .slice (some ⟨(g 35).b, 0, none⟩) 5 5, .slice none 0 0, .slice (some ⟨(g 37).b, 0, none⟩) 3 3, .slice (some ⟨(g 45).b, 0, none⟩) 3 3, .slice (some ⟨(g 47).b, 0, none⟩) 2 2, .slice (some ⟨(g 50).b, 0, none⟩) 2 2, .slice (some ⟨(g 52).b, 0, none⟩) 2 2, .slice (some ⟨(g 54).b, 0, none⟩) 1 1, .slice (some ⟨(g 56).b, 0, none⟩) 2 2, .slice (some ⟨(g 58).b, 0, none⟩) 1 1, .slice (some ⟨(g 60).b, 0, none⟩) 1 1, .slice (some ⟨(g 62).b, 0, none⟩) 1 1, .slice (some ⟨(g 64).b, 0, none⟩) 2 2, .slice (some ⟨(g 66).b, 0, none⟩) 1 1, .slice (some ⟨(g 68).b, 0, none⟩) 2 2, .slice (some ⟨(g 75).b, 0, none⟩) 2 2, .slice (some ⟨(g 77).b, 0, none⟩) 3 3, .slice (some ⟨(g 81).b, 0, none⟩) 1 1, .slice (some ⟨(g 83).b, 0, none⟩) 3 3, .slice (some ⟨(g 87).b, 0, none⟩) 3 3] : List Value).toArray 25 (0, 0))]⟩
theorem k92_89_ok (w0 : World) (b1 : Nat) (b2 : Nat) : ILoc (k92_89 b1 b2) ∧ IOk Try.prog 359 k92_ops w0 NoF [both (thr1 b1) (thr2 b2)] [(1, .slice (some ⟨b2, 0, none⟩) 2 2)] (k92_89 b1 b2) [k92_22 b1 b2, k92_26 b1 b2, k92_28 b1 b2, k92_30 b1 b2, k92_32 b1 b2, k92_34 b1 b2, k92_36 b1 b2, k92_46 b1 b2, k92_51 b1 b2, k92_55 b1 b2, k92_59 b1 b2, k92_63 b1 b2, k92_67 b1 b2, k92_76 b1 b2, k92_82 b1 b2, k92_88 b1 b2] := by
  refine ⟨fun g g' hl => ⟨?_, ?_⟩, _, rfl, fun g h R LA e => ?_⟩
  · simp only [k92_89, hl 23 (show 23 ∈ [23, 27, 29, 31, 33, 35, 37, 45, 47, 50, 52, 54, 56, 58, 60, 62, 64, 66, 68, 75, 77, 81, 83, 87, 89] by decide), hl 27 (show 27 ∈ [23, 27, 29, 31, 33, 35, 37, 45, 47, 50, 52, 54, 56, 58, 60, 62, 64, 66, 68, 75, 77, 81, 83, 87, 89] by decide), hl 29 (show 29 ∈ [23, 27, 29, 31, 33, 35, 37, 45, 47, 50, 52, 54, 56, 58, 60, 62, 64, 66, 68, 75, 77, 81, 83, 87, 89] by decide), hl 31 (show 31 ∈ [23, 27, 29, 31, 33, 35, 37, 45, 47, 50, 52, 54, 56, 58, 60, 62, 64, 66, 68, 75, 77, 81, 83, 87, 89] by decide), hl 33 (show 33 ∈ [23, 27, 29, 31, 33, 35, 37, 45, 47, 50, 52, 54, 56, 58, 60, 62, 64, 66, 68, 75, 77, 81, 83, 87, 89] by decide), hl 35 (show 35 ∈ [23, 27, 29, 31, 33, 35, 37, 45, 47, 50, 52, 54, 56, 58, 60, 62, 64, 66, 68, 75, 77, 81, 83, 87, 89] by decide), hl 37 (show 37 ∈ [23, 27, 29, 31, 33, 35, 37, 45, 47, 50, 52, 54, 56, 58, 60, 62, 64, 66, 68, 75, 77, 81, 83, 87, 89] by decide), hl 45 (show 45 ∈ [23, 27, 29, 31, 33, 35, 37, 45, 47, 50, 52, 54, 56, 58, 60, 62, 64, 66, 68, 75, 77, 81, 83, 87, 89] by decide), hl 47 (show 47 ∈ [23, 27, 29, 31, 33, 35, 37, 45, 47, 50, 52, 54, 56, 58, 60, 62, 64, 66, 68, 75, 77, 81, 83, 87, 89] by decide), hl 50 (show 50 ∈ [23, 27, 29, 31, 33, 35, 37, 45, 47, 50, 52, 54, 56, 58, 60, 62, 64, 66, 68, 75, 77, 81, 83, 87, 89] by decide), hl 52 (show 52 ∈ [23, 27, 29, 31, 33, 35, 37, 45, 47, 50, 52, 54, 56, 58, 60, 62, 64, 66, 68, 75, 77, 81, 83, 87, 89] by decide), hl 54 (show 54 ∈ [23, 27, 29, 31, 33, 35, 37, 45, 47, 50, 52, 54, 56, 58, 60, 62, 64, 66, 68, 75, 77, 81, 83, 87, 89] by decide), hl 56 (show 56 ∈ [23, 27, 29, 31, 33, 35, 37, 45, 47, 50, 52, 54, 56, 58, 60, 62, 64, 66, 68, 75, 77, 81, 83, 87, 89] by decide), hl 58 (show 58 ∈ [23, 27, 29, 31, 33, 35, 37, 45, 47, 50, 52, 54, 56, 58, 60, 62, 64, 66, 68, 75, 77, 81, 83, 87, 89] by decide), hl 60 (show 60 ∈ [23, 27, 29, 31, 33, 35, 37, 45, 47, 50, 52, 54, 56, 58, 60, 62, 64, 66, 68, 75, 77, 81, 83, 87, 89] by decide), hl 62 (show 62 ∈ [23, 27, 29, 31, 33, 35, 37, 45, 47, 50, 52, 54, 56, 58, 60, 62, 64, 66, 68, 75, 77, 81, 83, 87, 89] by decide), hl 64 (show 64 ∈ [23, 27, 29, 31, 33, 35, 37, 45, 47, 50, 52, 54, 56, 58, 60, 62, 64, 66, 68, 75, 77, 81, 83, 87, 89] by decide), hl 66 (show 66 ∈ [23, 27, 29, 31, 33, 35, 37, 45, 47, 50, 52, 54, 56, 58, 60, 62, 64, 66, 68, 75, 77, 81, 83, 87, 89] by decide), hl 68 (show 68 ∈ [23, 27, 29, 31, 33, 35, 37, 45, 47, 50, 52, 54, 56, 58, 60, 62, 64, 66, 68, 75, 77, 81, 83, 87, 89] by decide), hl 75 (show 75 ∈ [23, 27, 29, 31, 33, 35, 37, 45, 47, 50, 52, 54, 56, 58, 60, 62, 64, 66, 68, 75, 77, 81, 83, 87, 89] by decide), hl 77 (show 77 ∈ [23, 27, 29, 31, 33, 35, 37, 45, 47, 50, 52, 54, 56, 58, 60, 62, 64, 66, 68, 75, 77, 81, 83, 87, 89] by decide), hl 81 (show 81 ∈ [23, 27, 29, 31, 33, 35, 37, 45, 47, 50, 52, 54, 56, 58, 60, 62, 64, 66, 68, 75, 77, 81, 83, 87, 89] by decide), hl 83 (show 83 ∈ [23, 27, 29, 31, 33, 35, 37, 45, 47, 50, 52, 54, 56, 58, 60, 62, 64, 66, 68, 75, 77, 81, 83, 87, 89] by decide), hl 87 (show 87 ∈ [23, 27, 29, 31, 33, 35, 37, 45, 47, 50, 52, 54, 56, 58, 60, 62, 64, 66, 68, 75, 77, 81, 83, 87, 89] by decide), hl 89 (show 89 ∈ [23, 27, 29, 31, 33, 35, 37, 45, 47, 50, 52, 54, 56, 58, 60, 62, 64, 66, 68, 75, 77, 81, 83, 87, 89] by decide)]
  · simp only [k92_89, hl 23 (show 23 ∈ [23, 27, 29, 31, 33, 35, 37, 45, 47, 50, 52, 54, 56, 58, 60, 62, 64, 66, 68, 75, 77, 81, 83, 87, 89] by decide), hl 27 (show 27 ∈ [23, 27, 29, 31, 33, 35, 37, 45, 47, 50, 52, 54, 56, 58, 60, 62, 64, 66, 68, 75, 77, 81, 83, 87, 89] by decide), hl 29 (show 29 ∈ [23, 27, 29, 31, 33, 35, 37, 45, 47, 50, 52, 54, 56, 58, 60, 62, 64, 66, 68, 75, 77, 81, 83, 87, 89] by decide), hl 31 (show 31 ∈ [23, 27, 29, 31, 33, 35, 37, 45, 47, 50, 52, 54, 56, 58, 60, 62, 64, 66, 68, 75, 77, 81, 83, 87, 89] by decide), hl 33 (show 33 ∈ [23, 27, 29, 31, 33, 35, 37, 45, 47, 50, 52, 54, 56, 58, 60, 62, 64, 66, 68, 75, 77, 81, 83, 87, 89] by decide), hl 35 (show 35 ∈ [23, 27, 29, 31, 33, 35, 37, 45, 47, 50, 52, 54, 56, 58, 60, 62, 64, 66, 68, 75, 77, 81, 83, 87, 89] by decide), hl 37 (show 37 ∈ [23, 27, 29, 31, 33, 35, 37, 45, 47, 50, 52, 54, 56, 58, 60, 62, 64, 66, 68, 75, 77, 81, 83, 87, 89] by decide), hl 45 (show 45 ∈ [23, 27, 29, 31, 33, 35, 37, 45, 47, 50, 52, 54, 56, 58, 60, 62, 64, 66, 68, 75, 77, 81, 83, 87, 89] by decide), hl 47 (show 47 ∈ [23, 27, 29, 31, 33, 35, 37, 45, 47, 50, 52, 54, 56, 58, 60, 62, 64, 66, 68, 75, 77, 81, 83, 87, 89] by decide), hl 50 (show 50 ∈ [23, 27, 29, 31, 33, 35, 37, 45, 47, 50, 52, 54, 56, 58, 60, 62, 64, 66, 68, 75, 77, 81, 83, 87, 89] by decide), hl 52 (show 52 ∈ [23, 27, 29, 31, 33, 35, 37, 45, 47, 50, 52, 54, 56, 58, 60, 62, 64, 66, 68, 75, 77, 81, 83, 87, 89] by decide), hl 54 (show 54 ∈ [23, 27, 29, 31, 33, 35, 37, 45, 47, 50, 52, 54, 56, 58, 60, 62, 64, 66, 68, 75, 77, 81, 83, 87, 89] by decide), hl 56 (show 56 ∈ [23, 27, 29, 31, 33, 35, 37, 45, 47, 50, 52, 54, 56, 58, 60, 62, 64, 66, 68, 75, 77, 81, 83, 87, 89] by decide), hl 58 (show 58 ∈ [23, 27, 29, 31, 33, 35, 37, 45, 47, 50, 52, 54, 56, 58, 60, 62, 64, 66, 68, 75, 77, 81, 83, 87, 89] by decide), hl 60 (show 60 ∈ [23, 27, 29, 31, 33, 35, 37, 45, 47, 50, 52, 54, 56, 58, 60, 62, 64, 66, 68, 75, 77, 81, 83, 87, 89] by decide), hl 62 (show 62 ∈ [23, 27, 29, 31, 33, 35, 37, 45, 47, 50, 52, 54, 56, 58, 60, 62, 64, 66, 68, 75, 77, 81, 83, 87, 89] by decide), hl 64 (show 64 ∈ [23, 27, 29, 31, 33, 35, 37, 45, 47, 50, 52, 54, 56, 58, 60, 62, 64, 66, 68, 75, 77, 81, 83, 87, 89] by decide), hl 66 (show 66 ∈ [23, 27, 29, 31, 33, 35, 37, 45, 47, 50, 52, 54, 56, 58, 60, 62, 64, 66, 68, 75, 77, 81, 83, 87, 89] by decide), hl 68 (show 68 ∈ [23, 27, 29, 31, 33, 35, 37, 45, 47, 50, 52, 54, 56, 58, 60, 62, 64, 66, 68, 75, 77, 81, 83, 87, 89] by decide), hl 75 (show 75 ∈ [23, 27, 29, 31, 33, 35, 37, 45, 47, 50, 52, 54, 56, 58, 60, 62, 64, 66, 68, 75, 77, 81, 83, 87, 89] by decide), hl 77 (show 77 ∈ [23, 27, 29, 31, 33, 35, 37, 45, 47, 50, 52, 54, 56, 58, 60, 62, 64, 66, 68, 75, 77, 81, 83, 87, 89] by decide), hl 81 (show 81 ∈ [23, 27, 29, 31, 33, 35, 37, 45, 47, 50, 52, 54, 56, 58, 60, 62, 64, 66, 68, 75, 77, 81, 83, 87, 89] by decide), hl 83 (show 83 ∈ [23, 27, 29, 31, 33, 35, 37, 45, 47, 50, 52, 54, 56, 58, 60, 62, 64, 66, 68, 75, 77, 81, 83, 87, 89] by decide), hl 87 (show 87 ∈ [23, 27, 29, 31, 33, 35, 37, 45, 47, 50, 52, 54, 56, 58, 60, 62, 64, 66, 68, 75, 77, 81, 83, 87, 89] by decide), hl 89 (show 89 ∈ [23, 27, 29, 31, 33, 35, 37, 45, 47, 50, 52, 54, 56, 58, 60, 62, 64, 66, 68, 75, 77, 81, 83, 87, 89] by decide)]
  subst e
  dsimp only [depF, depA, extF, k92_22, k92_26, k92_28, k92_30, k92_32, k92_34, k92_36, k92_46, k92_51, k92_55, k92_59, k92_63, k92_67, k92_76, k92_82, k92_88, List.cons_append, List.nil_append, List.append_eq]
  repeat'(first|(refine kK' (T := 53) fun bk => ?_)|refine kv' ?_|apply jJ|refine jE' ?_|refine jp' ?_|(apply jc;kernel_rfl)|refine kg' ?_|refine kG' ?_|refine kB' fun _=>?_|refine kA' fun _=>?_|refine kK' fun _=>?_|refine kU' ?_|((first|refine kR' ?_ ?_|refine kQ' ?_ ?_);all_goals(intro hc;try simp only[hcs]at hc;try(exfalso;first|contradiction|omega))))
  exact At.item ⟨none, bk, 0, 0⟩ rfl (fun w h => h)
noncomputable def k92_2 (b1 : Nat) (b2 : Nat) : IT := ⟨68, 2, [23, 27, 29, 31, 33, 35, 37, 45, 47, 50, 52, 54, 56, 58, 60, 62, 64, 66, 68, 75, 77, 81, 83, 87, 89], fun g => .slice (some ⟨(g 89).b, 0, none⟩) 16 16, fun g => []⟩
theorem k92_2_ok (w0 : World) (b1 : Nat) (b2 : Nat) : ILoc (k92_2 b1 b2) ∧ IOk Try.prog 359 k92_ops w0 NoF [both (thr1 b1) (thr2 b2)] [(1, .slice (some ⟨b2, 0, none⟩) 2 2)] (k92_2 b1 b2) [k92_89 b1 b2] := by
  refine ⟨fun g g' hl => ⟨?_, ?_⟩, _, rfl, fun g h R LA e => ?_⟩
  · simp only [k92_2, hl 23 (show 23 ∈ [23, 27, 29, 31, 33, 35, 37, 45, 47, 50, 52, 54, 56, 58, 60, 62, 64, 66, 68, 75, 77, 81, 83, 87, 89] by decide), hl 27 (show 27 ∈ [23, 27, 29, 31, 33, 35, 37, 45, 47, 50, 52, 54, 56, 58, 60, 62, 64, 66, 68, 75, 77, 81, 83, 87, 89] by decide), hl 29 (show 29 ∈ [23, 27, 29, 31, 33, 35, 37, 45, 47, 50, 52, 54, 56, 58, 60, 62, 64, 66, 68, 75, 77, 81, 83, 87, 89] by decide), hl 31 (show 31 ∈ [23, 27, 29, 31, 33, 35, 37, 45, 47, 50, 52, 54, 56, 58, 60, 62, 64, 66, 68, 75, 77, 81, 83, 87, 89] by decide), hl 33 (show 33 ∈ [23, 27, 29, 31, 33, 35, 37, 45, 47, 50, 52, 54, 56, 58, 60, 62, 64, 66, 68, 75, 77, 81, 83, 87, 89] by decide), hl 35 (show 35 ∈ [23, 27, 29, 31, 33, 35, 37, 45, 47, 50, 52, 54, 56, 58, 60, 62, 64, 66, 68, 75, 77, 81, 83, 87, 89] by decide), hl 37 (show 37 ∈ [23, 27, 29, 31, 33, 35, 37, 45, 47, 50, 52, 54, 56, 58, 60, 62, 64, 66, 68, 75, 77, 81, 83, 87, 89] by decide), hl 45 (show 45 ∈ [23, 27, 29, 31, 33, 35, 37, 45, 47, 50, 52, 54, 56, 58, 60, 62, 64, 66, 68, 75, 77, 81, 83, 87, 89] by decide), hl 47 (show 47 ∈ [23, 27, 29, 31, 33, 35, 37, 45, 47, 50, 52, 54, 56, 58, 60, 62, 64, 66, 68, 75, 77, 81, 83, 87, 89] by decide), hl 50 (show 50 ∈ [23, 27, 29, 31, 33, 35, 37, 45, 47, 50, 52, 54, 56, 58, 60, 62, 64, 66, 68, 75, 77, 81, 83, 87, 89] by decide), hl 52 (show 52 ∈ [23, 27, 29, 31, 33, 35, 37, 45, 47, 50, 52, 54, 56, 58, 60, 62, 64, 66, 68, 75, 77, 81, 83, 87, 89] by decide), hl 54 (show 54 ∈ [23, 27, 29, 31, 33, 35, 37, 45, 47, 50, 52, 54, 56, 58, 60, 62, 64, 66, 68, 75, 77, 81, 83, 87, 89] by decide), hl 56 (show 56 ∈ [23, 27, 29, 31, 33, 35, 37, 45, 47, 50, 52, 54, 56, 58, 60, 62, 64, 66, 68, 75, 77, 81, 83, 87, 89] by decide), hl 58 (show 58 ∈ [23, 27, 29, 31, 33, 35, 37, 45, 47, 50, 52, 54, 56, 58, 60, 62, 64, 66, 68, 75, 77, 81, 83, 87, 89] by decide), hl 60 (show 60 ∈ [23, 27, 29, 31, 33, 35, 37, 45, 47, 50, 52, 54, 56, 58, 60, 62, 64, 66, 68, 75, 77, 81, 83, 87, 89] by decide), hl 62 (show 62 ∈ [23, 27, 29, 31, 33, 35, 37, 45, 47, 50, 52, 54, 56, 58, 60, 62, 64, 66, 68, 75, 77, 81, 83, 87, 89] by decide), hl 64 (show 64 ∈ [23, 27, 29, 31, 33, 35, 37, 45, 47, 50, 52, 54, 56, 58, 60, 62, 64, 66, 68, 75, 77, 81, 83, 87, 89] by decide), hl 66 (show 66 ∈ [23, 27, 29, 31, 33, 35, 37, 45, 47, 50, 52, 54, 56, 58, 60, 62, 64, 66, 68, 75, 77, 81, 83, 87, 89] by decide), hl 68 (show 68 ∈ [23, 27, 29, 31, 33, 35, 37, 45, 47, 50, 52, 54, 56, 58, 60, 62, 64, 66, 68, 75, 77, 81, 83, 87, 89] by decide), hl 75 (show 75 ∈ [23, 27, 29, 31, 33, 35, 37, 45, 47, 50, 52, 54, 56, 58, 60, 62, 64, 66, 68, 75, 77, 81, 83, 87, 89] by decide), hl 77 (show 77 ∈ [23, 27, 29, 31, 33, 35, 37, 45, 47, 50, 52, 54, 56, 58, 60, 62, 64, 66, 68, 75, 77, 81, 83, 87, 89] by decide), hl 81 (show 81 ∈ [23, 27, 29, 31, 33, 35, 37, 45, 47, 50, 52, 54, 56, 58, 60, 62, 64, 66, 68, 75, 77, 81, 83, 87, 89] by decide), hl 83 (show 83 ∈ [23, 27, 29, 31, 33, 35, 37, 45, 47, 50, 52, 54, 56, 58, 60, 62, 64, 66, 68, 75, 77, 81, 83, 87, 89] by decide), hl 87 (show 87 ∈ [23, 27, 29, 31, 33, 35, 37, 45, 47, 50, 52, 54, 56, 58, 60, 62, 64, 66, 68, 75, 77, 81, 83, 87, 89] by decide), hl 89 (show 89 ∈ [23, 27, 29, 31, 33, 35, 37, 45, 47, 50, 52, 54, 56, 58, 60, 62, 64, 66, 68, 75, 77, 81, 83, 87, 89] by decide)]
  · simp only [k92_2, hl 23 (show 23 ∈ [23, 27, 29, 31, 33, 35, 37, 45, 47, 50, 52, 54, 56, 58, 60, 62, 64, 66, 68, 75, 77, 81, 83, 87, 89] by decide), hl 27 (show 27 ∈ [23, 27, 29, 31, 33, 35, 37, 45, 47, 50, 52, 54, 56, 58, 60, 62, 64, 66, 68, 75, 77, 81, 83, 87, 89] by decide), hl 29 (show 29 ∈ [23, 27, 29, 31, 33, 35, 37, 45, 47, 50, 52, 54, 56, 58, 60, 62, 64, 66, 68, 75, 77, 81, 83, 87, 89] by decide), hl 31 (show 31 ∈ [23, 27, 29, 31, 33, 35, 37, 45, 47, 50, 52, 54, 56, 58, 60, 62, 64, 66, 68, 75, 77, 81, 83, 87, 89] by decide), hl 33 (show 33 ∈ [23, 27, 29, 31, 33, 35, 37, 45, 47, 50, 52, 54, 56, 58, 60, 62, 64, 66, 68, 75, 77, 81, 83, 87, 89] by decide), hl 35 (show 35 ∈ [23, 27, 29, 31, 33, 35, 37, 45, 47, 50, 52, 54, 56, 58, 60, 62, 64, 66, 68, 75, 77, 81, 83, 87, 89] by decide), hl 37 (show 37 ∈ [23, 27, 29, 31, 33, 35, 37, 45, 47, 50, 52, 54, 56, 58, 60, 62, 64, 66, 68, 75, 77, 81, 83, 87, 89] by decide), hl 45 (show 45 ∈ [23, 27, 29, 31, 33, 35, 37, 45, 47, 50, 52, 54, 56, 58, 60, 62, 64, 66, 68, 75, 77, 81, 83, 87, 89] by decide), hl 47 (show 47 ∈ [23, 27, 29, 31, 33, 35, 37, 45, 47, 50, 52, 54, 56, 58, 60, 62, 64, 66, 68, 75, 77, 81, 83, 87, 89] by decide), hl 50 (show 50 ∈ [23, 27, 29, 31, 33, 35, 37, 45, 47, 50, 52, 54, 56, 58, 60, 62, 64, 66, 68, 75, 77, 81, 83, 87, 89] by decide), hl 52 (show 52 ∈ [23, 27, 29, 31, 33, 35, 37, 45, 47, 50, 52, 54, 56, 58, 60, 62, 64, 66, 68, 75, 77, 81, 83, 87, 89] by decide), hl 54 (show 54 ∈ [23, 27, 29, 31, 33, 35, 37, 45, 47, 50, 52, 54, 56, 58, 60, 62, 64, 66, 68, 75, 77, 81, 83, 87, 89] by decide), hl 56 (show 56 ∈ [23, 27, 29, 31, 33, 35, 37, 45, 47, 50, 52, 54, 56, 58, 60, 62, 64, 66, 68, 75, 77, 81, 83, 87, 89] by decide), hl 58 (show 58 ∈ [23, 27, 29, 31, 33, 35, 37, 45, 47, 50, 52, 54, 56, 58, 60, 62, 64, 66, 68, 75, 77, 81, 83, 87, 89] by decide), hl 60 (show 60 ∈ [23, 27, 29, 31, 33, 35, 37, 45, 47, 50, 52, 54, 56, 58, 60, 62, 64, 66, 68, 75, 77, 81, 83, 87, 89] by decide), hl 62 (show 62 ∈ [23, 27, 29, 31, 33, 35, 37, 45, 47, 50, 52, 54, 56, 58, 60, 62, 64, 66, 68, 75, 77, 81, 83, 87, 89] by decide), hl 64 (show 64 ∈ [23, 27, 29, 31, 33, 35, 37, 45, 47, 50, 52, 54, 56, 58, 60, 62, 64, 66, 68, 75, 77, 81, 83, 87, 89] by decide), hl 66 (show 66 ∈ [23, 27, 29, 31, 33, 35, 37, 45, 47, 50, 52, 54, 56, 58, 60, 62, 64, 66, 68, 75, 77, 81, 83, 87, 89] by decide), hl 68 (show 68 ∈ [23, 27, 29, 31, 33, 35, 37, 45, 47, 50, 52, 54, 56, 58, 60, 62, 64, 66, 68, 75, 77, 81, 83, 87, 89] by decide), hl 75 (show 75 ∈ [23, 27, 29, 31, 33, 35, 37, 45, 47, 50, 52, 54, 56, 58, 60, 62, 64, 66, 68, 75, 77, 81, 83, 87, 89] by decide), hl 77 (show 77 ∈ [23, 27, 29, 31, 33, 35, 37, 45, 47, 50, 52, 54, 56, 58, 60, 62, 64, 66, 68, 75, 77, 81, 83, 87, 89] by decide), hl 81 (show 81 ∈ [23, 27, 29, 31, 33, 35, 37, 45, 47, 50, 52, 54, 56, 58, 60, 62, 64, 66, 68, 75, 77, 81, 83, 87, 89] by decide), hl 83 (show 83 ∈ [23, 27, 29, 31, 33, 35, 37, 45, 47, 50, 52, 54, 56, 58, 60, 62, 64, 66, 68, 75, 77, 81, 83, 87, 89] by decide), hl 87 (show 87 ∈ [23, 27, 29, 31, 33, 35, 37, 45, 47, 50, 52, 54, 56, 58, 60, 62, 64, 66, 68, 75, 77, 81, 83, 87, 89] by decide), hl 89 (show 89 ∈ [23, 27, 29, 31, 33, 35, 37, 45, 47, 50, 52, 54, 56, 58, 60, 62, 64, 66, 68, 75, 77, 81, 83, 87, 89] by decide)]
  subst e
  dsimp only [depF, depA, extF, k92_89, List.cons_append, List.nil_append, List.append_eq]
  repeat'(first|refine kv' ?_|apply jJ|refine jE' ?_|refine jp' ?_|(apply jc;kernel_rfl)|refine kg' ?_|refine kG' ?_|refine kB' fun _=>?_|refine kA' fun _=>?_|refine kK' fun _=>?_|refine kU' ?_|((first|refine kR' ?_ ?_|refine kQ' ?_ ?_);all_goals(intro hc;try simp only[hcs]at hc;try(exfalso;first|contradiction|omega))))
  exact At.item ⟨none, 0, 0, 0⟩ rfl (fun w h => h)
end Go.Proofs.Ytgblmkpfkcibiaa

namespace Go.Proofs.Ytgblmkpfkcibiaa
open Go.Hb
attribute [local irreducible] LR CW At Ev thn blk finK noG again CallsTo DW QL dnext TW DP gpost
set_option maxRecDepth 100000

structure LessP (x z : Plc) : Prop where
  ring : x.ring = z.ring
  mem : ∀ n, hasC x.members n = true → hasC z.members n = true
theorem Rch.mono {s t : Int → Int → Bool} (h : ∀ a b, s a b = true → t a b = true) {a b : Int} (hr : Rch s a b) : Rch t a b := by
  induction hr with
  | refl => exact .refl
  | step _ hs ih => exact .step ih (h _ _ hs)
end Go.Proofs.Ytgblmkpfkcibiaa

namespace Go.Proofs.Ytgblmkpfkcibiaa
open Go.Hb
attribute [local irreducible] LR CW At Ev thn blk finK noG again CallsTo DW QL dnext TW DP gpost
set_option maxRecDepth 100000

end Go.Proofs.Ytgblmkpfkcibiaa
