/-
  What is learnt: the program's Learn.
-/
import Derived.Test.YtgblmkpfkcibiaaRHVM2
import Derived.Lib.SliceRun

set_option linter.unusedSimpArgs false
set_option linter.unusedVariables false
namespace Go.Proofs.Ytgblmkpfkcibiaa
open Go.Hb
attribute [local irreducible] LR CW At Ev thn blk finK noG again CallsTo DW QL dnext TW DP gpost
set_option maxRecDepth 100000

set_option maxHeartbeats 2000000 in
theorem m127 (a : Option Addr) (c : Nat) (D : List Plc) (lo hi : Nat) (w : World) (h : (pN a D.length c D).holds w) (hlo : lo ≤ hi) (hhi : hi ≤ D.length) (hn : D.length ≤ 140737488355328) :
    CallsTo Try.prog 127 [.slice a D.length c, .int .i64 lo, .int .i64 hi, .func (.func 85) #[] #[]] w fun v w' => v = .tuple #[] ∧ Step (pN a D.length c D) (pN a D.length c (sorP D lo (hi - lo))) w w' := by
  have hS0 : St w (pN a D.length c D).foot [pN a D.length c D] w := St.one h (fun k hk => (World.ownsRow.lt h k hk).2) (osl.dep _ _ _ _ _)
  generalize hF : (pN a D.length c D).foot = F at *
  refine go_in (n := 53) hS0 Try.func127 rfl rfl ?_
  have hadd : ∀ k : Nat, ((lo : Int) + (k : Int)) = ((lo + k : Nat) : Int) := fun k => by omega
  repeat'(first|refine kv' ?_|apply jJ|refine jE' ?_|refine jp' ?_|(apply jc;kernel_rfl)|refine kg' ?_|refine kG' ?_|refine kB' fun _=>?_|refine kA' fun _=>?_|refine kK' fun _=>?_|refine kU' ?_|(apply addX;(iterate 2 exact rfl);(iterate 2(first|omega|(dsimp only;omega)));exact rfl)|((first|refine kR' ?_ ?_|refine kQ' ?_ ?_);all_goals(intro hc;try simp only[hcs]at hc;try(exfalso;first|contradiction|omega))))
  apply CW.loop [8, 9, 12, 13, 14, 15, 16, 17, 18, 19, 20, 21, 22, 23, 24, 25, 26, 27, 28, 29, 30, 31, 32, 33, 34, 35, 36, 37, 38, 39, 40, 41, 42, 43, 44, 45, 46, 47, 48, 49, 50, 51, 52] (fun k : Nat => 1 ≤ k ∧ (k ≤ hi - lo ∨ k = 1)) (fun k => [(8, .int .i64 ((lo + k : Nat) : Int))])
    (fun k => St w F [pN a D.length c (sorP D lo k)]) (fun k => hi - lo - k)
  · refine fun w' hw' => ⟨1, ⟨by omega, .inr rfl⟩, ⟨?_, trivial⟩, ?_⟩
    · exact congrArg (Value.int .i64) (by omega)
    · rcases Nat.lt_or_ge lo D.length with hl | hl
      · rw [sorP_one D hl]; exact hw'
      · have e : sorP D lo 1 = D := by
          unfold sorP
          rw [List.drop_of_length_le hl, List.drop_of_length_le (by omega), List.take_of_length_le hl]
          simp [isP]
        rw [e]; exact hw'
  rintro k g1 ⟨hk1, hk2⟩
  by_cases hlt : lo + k < hi
  · have hlk : lo + k < D.length := by omega
    refine CW_fact (φ := ∃ ba oa, a = some ⟨ba, oa, none⟩) (fun w1 hw1 => (ownsRow_rd (hw1.holds (pN a D.length c (sorP D lo k)) memZ)).form (fun e => by have h1 := congrArg List.length e; rw [pcs_length, sorP_len D (by omega), List.length_nil] at h1; omega)) ?_
    rintro ⟨ba, oa, rfl⟩
    obtain ⟨A, hA⟩ : ∃ A, A = D.take lo := ⟨_, rfl⟩
    obtain ⟨S, hSS⟩ : ∃ S, S = isP ((D.drop lo).take k) := ⟨_, rfl⟩
    obtain ⟨R, hR⟩ : ∃ R, R = D.drop (lo + k + 1) := ⟨_, rfl⟩
    obtain ⟨x, hx⟩ : ∃ x, x = D[lo + k] := ⟨_, rfl⟩
    have hon := sorP_on hlk
    have hne : ∀ j, cutP (isP ((D.drop lo).take k)) D[lo + k] k = j → _ := fun j hj => sorP_next hlk hj
    rw [← hA, ← hSS, ← hR, ← hx] at hon
    rw [← hA, ← hSS, ← hR, ← hx] at hne
    have hAl : A.length = lo := by rw [hA, List.length_take]; omega
    have hSl : S.length = k := by rw [hSS, isP_len, List.length_take, List.length_drop]; omega
    have hRl : R.length = D.length - (lo + k + 1) := by rw [hR, List.length_drop]
    rw [hon]
    repeat'(first|refine kv' ?_|apply jJ|refine jE' ?_|refine jp' ?_|(apply jc;kernel_rfl)|refine kg' ?_|refine kG' ?_|refine kB' fun _=>?_|refine kA' fun _=>?_|refine kK' fun _=>?_|refine kU' ?_|((first|refine kR' ?_ ?_|refine kQ' ?_ ?_);all_goals(intro hc;try simp only[hcs]at hc;try(exfalso;first|contradiction|omega))))
    apply CW.loop [9, 18, 19, 20, 21, 22, 23, 24, 25, 26, 27, 28, 29, 30, 31, 32, 33, 34, 35, 36, 37, 38, 39, 40, 41, 42, 43, 44, 45, 46, 47, 48, 49, 50, 51, 52] (fun j : Nat => j ≤ k ∧ cutP S x k = cutP S x j) (fun j => [(9, .int .i64 ((lo + j : Nat) : Int))])
      (fun j => St w F [pN (some ⟨ba, oa, none⟩) D.length c (onP A S x R j)]) (fun j => j)
    · exact fun w' hw' => ⟨k, ⟨by omega, rfl⟩, ⟨rfl, trivial⟩, hw'⟩
    rintro j g2 ⟨hj, hcut⟩
    cases j with
    | zero =>
      have hc0 : cutP S x k = 0 := hcut
      repeat'(first|(apply CW.reg_heldC)|refine kv' ?_|apply jJ|refine jE' ?_|refine jp' ?_|(apply jc;kernel_rfl)|refine kg' ?_|refine kG' ?_|refine kB' fun _=>?_|refine kA' fun _=>?_|refine kK' fun _=>?_|refine kU' ?_|((first|refine kR' ?_ ?_|refine kQ' ?_ ?_);all_goals(intro hc;try simp only[hcs]at hc;try(exfalso;first|contradiction|omega))))
      all_goals (
        apply DW.quiet [0, 1, 2, 3, 4, 5, 6, 7, 8, 9, 10, 11, 12, 13]
        · decide +kernel
        · first | exact fun _ h => h | exact fun _ h => St.sub h subZ
        repeat'(first|refine yv' ?_|refine uv' ?_|refine un' ?_|(refine us' ?_ ?_;all_goals(intro hc;try simp only[hcs]at hc;try(exfalso;first|contradiction|omega)))|apply QL.nil)
        all_goals (show DW _ _ _ _ _ _ _ _))
      all_goals (
        apply DW.loud 14
        · exact rfl
        · decide +kernel
        repeat'(first|refine kg' ?_|refine kG' ?_|apply kM|refine kv' ?_|refine kK' fun _=>?_|refine kU' ?_|refine kB' fun _=>?_|refine kA' fun _=>?_)
        all_goals (refine At.stage_same (fun _ h => St.sub h subZ) ?_))
      all_goals (
        apply DW.quiet [15, 16]
        · decide +kernel
        · first | exact fun _ h => h | exact fun _ h => St.sub h subZ
        repeat'(first|refine yv' ?_|refine uv' ?_|refine un' ?_|(refine us' ?_ ?_;all_goals(intro hc;try simp only[hcs]at hc;try(exfalso;first|contradiction|omega)))|apply QL.nil)
        all_goals (show DW _ _ _ _ _ _ _ _))
      all_goals (first | (apply DW.done_thn; (· decide +kernel)) | (apply DW.done; (· decide +kernel)))
      repeat'(first|refine kv' ?_|apply jJ|refine jE' ?_|refine jp' ?_|(apply jc;kernel_rfl)|refine kg' ?_|refine kG' ?_|refine kB' fun _=>?_|refine kA' fun _=>?_|refine kK' fun _=>?_|refine kU' ?_|(apply addX;(iterate 2 exact rfl);(iterate 2(first|omega|(dsimp only;omega)));exact rfl)|((first|refine kR' ?_ ?_|refine kQ' ?_ ?_);all_goals(intro hc;try simp only[hcs]at hc;try(exfalso;first|contradiction|omega))))
      refine At.again (k + 1) ⟨by omega, .inl (by omega)⟩ ?_ ⟨?_, trivial⟩ (fun w' hw' => ?_) (by omega)
      · (repeat (first | exact Out.refl _ _ | exact Out.mix | (apply Out.upd; (· exact rfl)) | (apply Out.updL; (· exact rfl)) | (apply Out.mixs; (· exact rfl))))
      · exact congrArg (Value.int .i64) (by omega)
      · rw [← hne 0 hc0]; exact hw'
    | succ j =>
      have hjS : j < S.length := by omega
      obtain ⟨y, hy⟩ : ∃ y, S[j] = y := ⟨_, rfl⟩
      have hat1 := onP_at A S R x (j := j + 1) (by omega)
      have hat0 := onP_before A S R x hjS
      have hsw := onP_swap A S R x hjS
      have hol := onP_len A S R x (j := j + 1) (by omega)
      rw [hy] at hat0 hsw
      rw [hAl] at hat1 hat0 hsw
      have hcc : cutP S x (j + 1) = if x.ring < y.ring then cutP S x j else j + 1 := by
        show (if x.ring < (S.getD j zP).ring then cutP S x j else j + 1) = _
        rw [List.getD_eq_getElem?_getD, List.getElem?_eq_getElem hjS, hy]; rfl
      repeat'(first|(apply CW.reg_heldC)|refine kv' ?_|apply jJ|refine jE' ?_|refine jp' ?_|(apply jc;kernel_rfl)|refine kg' ?_|refine kG' ?_|refine kB' fun _=>?_|refine kA' fun _=>?_|refine kK' fun _=>?_|refine kU' ?_|((first|refine kR' ?_ ?_|refine kQ' ?_ ?_);all_goals(intro hc;try simp only[hcs]at hc;try(exfalso;first|contradiction|omega))))
      all_goals (
        apply DW.quiet [0, 1, 2, 3, 4, 5, 6, 7, 8, 9, 10, 11, 12, 13]
        · decide +kernel
        · first | exact fun _ h => h | exact fun _ h => St.sub h subZ
        repeat'(first|refine yv' ?_|(first | (apply QL.evg; (iterate 3 exact rfl); (· first | (apply Ev.indexAddr; (· exact rfl); (· exact rfl); (· omega); (· omega)) | (apply Ev.load_agg_at (cs := Plc.cells x); (· exact rfl); (· exact rfl); (· intro w' hw'; refine pcs_cell (hw'.rd_of_own memZ) hat1 ?_; (· omega))) | (apply Ev.load_agg_at (cs := Plc.cells y); (· exact rfl); (· exact rfl); (· intro w' hw'; refine pcs_cell (hw'.rd_of_own memZ) hat0 ?_; (· omega))) | (apply Ev.sub; (· exact rfl); (· exact rfl); (· omega); (· omega))); (· exact rfl)))|refine uv' ?_|refine un' ?_|(refine us' ?_ ?_;all_goals(intro hc;try simp only[hcs]at hc;try(exfalso;first|contradiction|omega)))|apply QL.nil)
        all_goals (show DW _ _ _ _ _ _ _ _))
      all_goals (
        apply DW.loud 14
        · exact rfl
        · decide +kernel
        repeat'(first|refine kg' ?_|refine kG' ?_|apply kM|refine kv' ?_|refine kK' fun _=>?_|refine kU' ?_|refine kB' fun _=>?_|refine kA' fun _=>?_|(apply LR.qcall_val (g := 85) (cap := []) (v := .int .i64 (cmpM x.ring y.ring)); (· exact rfl); (· exact rfl); (· intro w1 h1; exact CallsTo.q (m85 x y w1) h1)))
        all_goals (refine At.stage_same (fun _ h => St.sub h subZ) ?_))
      all_goals (
        apply DW.quiet [15, 16]
        · decide +kernel
        · first | exact fun _ h => h | exact fun _ h => St.sub h subZ
        repeat'(first|refine yv' ?_|(first | (apply QL.evg; (iterate 3 exact rfl); (· first | (apply Ev.indexAddr; (· exact rfl); (· exact rfl); (· omega); (· omega)) | (apply Ev.load_agg_at (cs := Plc.cells x); (· exact rfl); (· exact rfl); (· intro w' hw'; refine pcs_cell (hw'.rd_of_own memZ) hat1 ?_; (· omega))) | (apply Ev.load_agg_at (cs := Plc.cells y); (· exact rfl); (· exact rfl); (· intro w' hw'; refine pcs_cell (hw'.rd_of_own memZ) hat0 ?_; (· omega))) | (apply Ev.sub; (· exact rfl); (· exact rfl); (· omega); (· omega))); (· exact rfl)))|refine uv' ?_|refine un' ?_|(refine us' ?_ ?_;all_goals(intro hc;try simp only[hcs]at hc;try(exfalso;first|contradiction|omega)))|apply QL.nil)
        all_goals (show DW _ _ _ _ _ _ _ _))
      all_goals (first | (apply DW.done_thn; (· decide +kernel)) | (apply DW.done; (· decide +kernel)))
      rw [show decide (cmpM x.ring y.ring < 0) = decide (x.ring < y.ring) by
        rw [decide_eq_decide]; unfold cmpM; split <;> (try split) <;> omega]
      by_cases hlt2 : x.ring < y.ring
      · rw [if_pos hlt2] at hcc
        rw [decide_eq_true hlt2]
        repeat'(first|(apply CW.reg_held (fun _ => True))|refine kv' ?_|apply jJ|refine jE' ?_|refine jp' ?_|(apply jc;kernel_rfl)|refine kg' ?_|refine kG' ?_|refine kB' fun _=>?_|refine kA' fun _=>?_|refine kK' fun _=>?_|refine kU' ?_|((first|refine kR' ?_ ?_|refine kQ' ?_ ?_);all_goals(intro hc;try simp only[hcs]at hc;try(exfalso;first|contradiction|omega))))
        apply DW.quiet [2, 3, 4]
        · decide +kernel
        · exact fun _ _ => trivial
        repeat'(first|refine yv' ?_|((apply QL.ev; (· exact rfl); (· apply Ev.sub; (· exact rfl); (· exact rfl); (· omega); (· omega)); (· exact rfl)))|refine uv' ?_|refine un' ?_|(refine us' ?_ ?_;all_goals(intro hc;try simp only[hcs]at hc;try(exfalso;first|contradiction|omega)))|apply QL.nil)
        apply DW.gate 15 [15, 16, 17] [0, 1, 5, 6, 7, 8, 9, 10, 11, 12, 13, 14] (St w F [pN (some ⟨ba, oa, none⟩) D.length c (onP A S x R (j + 1))])
        · decide +kernel
        · exact fun _ _ => trivial
        · decide +kernel
        apply DW.quiet [0, 1, 5, 6, 7, 8, 9, 10, 11, 12, 13, 14]
        · decide +kernel
        · exact fun _ h => h
        repeat'(first|refine yv' ?_|((apply QL.ev; (· exact rfl); (· first | (apply Ev.indexAddr; (· exact rfl); (· exact rfl); (· omega); (· omega)) | (apply Ev.load_agg_at (cs := Plc.cells x); (· exact rfl); (· exact rfl); (· intro w' hw'; refine pcs_cell (hw'.rd_of_own memZ) hat1 ?_; (· omega))) | (apply Ev.load_agg_at (cs := Plc.cells y); (· exact rfl); (· exact rfl); (· intro w' hw'; refine pcs_cell (hw'.rd_of_own memZ) hat0 ?_; (· omega))) | (apply Ev.sub; (· exact rfl); (· exact rfl); (· omega); (· omega))); (· exact rfl)))|refine uv' ?_|refine un' ?_|(refine us' ?_ ?_;all_goals(intro hc;try simp only[hcs]at hc;try(exfalso;first|contradiction|omega)))|apply QL.nil)
        apply DW.done
        · decide +kernel
        apply At.gate
        apply DW.loud 15
        · exact rfl
        · decide +kernel
        refine LR.store_obj rfl rfl (Sel.head _ _ _) rfl (put_plc (l := onP A S x R (j + 1)) y (k := lo + j + 1) (by omega) (by omega)) (osl.dep _ _ _ _ _) ?_
        apply kM
        apply At.stage_any
        apply DW.quiet [16]
        · decide +kernel
        · exact fun _ _ => trivial
        repeat'(first|refine yv' ?_|((apply QL.ev; (· exact rfl); (· apply Ev.indexAddr; (· exact rfl); (· exact rfl); (· omega); (· omega)); (· exact rfl)))|refine uv' ?_|refine un' ?_|(refine us' ?_ ?_;all_goals(intro hc;try simp only[hcs]at hc;try(exfalso;first|contradiction|omega)))|apply QL.nil)
        apply DW.loud 17
        · exact rfl
        · decide +kernel
        refine LR.store_obj rfl rfl (Sel.head _ _ _) rfl (put_plc (l := (onP A S x R (j + 1)).set (lo + j + 1) y) x (k := lo + j) (by rw [List.length_set]; omega) (by omega)) (osl.dep _ _ _ _ _) ?_
        apply kM
        apply At.stage_any
        apply DW.done
        · decide +kernel
        rw [hsw]
        repeat'(first|refine kv' ?_|apply jJ|refine jE' ?_|refine jp' ?_|(apply jc;kernel_rfl)|refine kg' ?_|refine kG' ?_|refine kB' fun _=>?_|refine kA' fun _=>?_|refine kK' fun _=>?_|refine kU' ?_|(apply subX;(iterate 2 exact rfl);(iterate 2(first|omega|(dsimp only;omega)));exact rfl)|((first|refine kR' ?_ ?_|refine kQ' ?_ ?_);all_goals(intro hc;try simp only[hcs]at hc;try(exfalso;first|contradiction|omega))))
        refine At.again j ⟨by omega, by rw [hcut, hcc]⟩ ?_ ⟨?_, trivial⟩ (fun w' hw' => hw') (by omega)
        · (repeat (first | exact Out.refl _ _ | exact Out.mix | (apply Out.upd; (· exact rfl)) | (apply Out.updL; (· exact rfl)) | (apply Out.mixs; (· exact rfl))))
        · exact congrArg (Value.int .i64) (by omega)
      · rw [if_neg hlt2] at hcc
        rw [decide_eq_false hlt2]
        repeat'(first|refine kv' ?_|apply jJ|refine jE' ?_|refine jp' ?_|(apply jc;kernel_rfl)|refine kg' ?_|refine kG' ?_|refine kB' fun _=>?_|refine kA' fun _=>?_|refine kK' fun _=>?_|refine kU' ?_|(apply addX;(iterate 2 exact rfl);(iterate 2(first|omega|(dsimp only;omega)));exact rfl)|((first|refine kR' ?_ ?_|refine kQ' ?_ ?_);all_goals(intro hc;try simp only[hcs]at hc;try(exfalso;first|contradiction|omega))))
        refine At.again (k + 1) ⟨by omega, .inl (by omega)⟩ ?_ ⟨?_, trivial⟩ (fun w' hw' => ?_) (by omega)
        · (repeat (first | exact Out.refl _ _ | exact Out.mix | (apply Out.upd; (· exact rfl)) | (apply Out.updL; (· exact rfl)) | (apply Out.mixs; (· exact rfl))))
        · exact congrArg (Value.int .i64) (by omega)
        · rw [← hne (j + 1) (hcut.trans hcc)]; exact hw'
  · have hkk : sorP D lo k = sorP D lo (hi - lo) := by
      rcases hk2 with h1 | h1
      · rw [show k = hi - lo by omega]
      · subst h1
        rcases Nat.lt_or_ge lo hi with h2 | h2
        · rw [show hi - lo = 1 by omega]
        · have e : hi = lo := by omega
          subst e
          rw [Nat.sub_self]
          rcases Nat.lt_or_ge hi D.length with hl | hl
          · rw [sorP_one D hl]
            unfold sorP
            simp [isP]
          · unfold sorP
            rw [List.drop_of_length_le hl, List.drop_of_length_le (by omega), List.drop_of_length_le (by omega)]
            simp [isP]
    repeat'(first|refine kv' ?_|apply jJ|refine jE' ?_|refine jp' ?_|(apply jc;kernel_rfl)|refine kg' ?_|refine kG' ?_|refine kB' fun _=>?_|refine kA' fun _=>?_|refine kK' fun _=>?_|refine kU' ?_|((first|refine kR' ?_ ?_|refine kQ' ?_ ?_);all_goals(intro hc;try simp only[hcs]at hc;try(exfalso;first|contradiction|omega))))
    apply end0; (· exact rfl); intro w' hS
    rw [hkk] at hS
    subst hF
    exact ⟨rfl, hS.step rfl⟩
end Go.Proofs.Ytgblmkpfkcibiaa

namespace Go.Proofs.Ytgblmkpfkcibiaa
open Go.Hb
attribute [local irreducible] LR CW At Ev thn blk finK noG again CallsTo DW QL dnext TW DP gpost
set_option maxRecDepth 100000

theorem sorP_all (D : List Plc) : sorP D 0 (D.length - 0) = isP D := by
  unfold sorP
  rw [Nat.sub_zero, List.drop_zero, List.take_length, Nat.zero_add, List.drop_length, List.append_nil]
  rfl
def SortTo (N : Nat) : Prop := ∀ (a : Option Addr) (c : Nat) (D : List Plc) (w : World), (pN a D.length c D).holds w → D.length ≤ N →
  CallsTo Try.prog 56 [.slice a D.length c] w fun v w' => v = .slice a D.length c ∧ Step (pN a D.length c D) (pN a D.length c (isP D)) w w'
set_option maxHeartbeats 1000000 in
theorem m109s (a : Option Addr) (c : Nat) (D : List Plc) (w : World) (h : (pN a D.length c D).holds w) (hn : D.length ≤ 19) :
    CallsTo Try.prog 109 [.slice a D.length c, .int .i64 D.length, .func (.func 85) #[] #[]] w fun v w' => v = .tuple #[] ∧ Step (pN a D.length c D) (pN a D.length c (isP D)) w w' := by
  have hS0 : St w (pN a D.length c D).foot [pN a D.length c D] w := St.one h (fun k hk => (World.ownsRow.lt h k hk).2) (osl.dep _ _ _ _ _)
  generalize hF : (pN a D.length c D).foot = F at *
  refine go_in (n := 63) hS0 Try.func109 rfl rfl ?_
  repeat'(first|refine kv' ?_|apply jJ|refine jE' ?_|refine jp' ?_|(apply jc;kernel_rfl)|refine kg' ?_|refine kG' ?_|refine kB' fun _=>?_|refine kA' fun _=>?_|refine kK' fun _=>?_|refine kU' ?_|((first|refine kR' ?_ ?_|refine kQ' ?_ ?_);all_goals(intro hc;try simp only[hcs]at hc;try(exfalso;first|contradiction|omega))))
  apply CW.loop [7, 8, 11, 12, 13, 14, 15, 16, 17, 18, 19, 20, 21, 22] (fun _ : Nat => True) (fun _ => [(6, .int .i64 20), (7, .int .i64 0), (8, .int .i64 20)]) (fun _ => St w F [pN a D.length c D]) (fun i => i)
  · exact fun w' hw' => ⟨0, trivial, ⟨rfl, rfl, rfl, trivial⟩, hw'⟩
  intro i g1 _
  repeat'(first|refine kv' ?_|apply jJ|refine jE' ?_|refine jp' ?_|(apply jc;kernel_rfl)|refine kg' ?_|refine kG' ?_|refine kB' fun _=>?_|refine kA' fun _=>?_|refine kK' fun _=>?_|refine kU' ?_|((first|refine kR' ?_ ?_|refine kQ' ?_ ?_);all_goals(intro hc;try simp only[hcs]at hc;try(exfalso;first|contradiction|omega))))
  apply LR.call
  · exact rfl
  intro w1 h1
  refine CallsTo.mono (show CallsTo Try.prog 127 [.slice a D.length c, .int .i64 0, .int .i64 D.length, .func (.func 85) #[] #[]] w1 _ from m127 a c D 0 D.length w1 (h1.holds (pN a D.length c D) memZ) (by omega) (by omega) (by omega)) ?_
  rintro v w2 ⟨rfl, st⟩
  rw [sorP_all] at st
  refine LR.back (h1.did selZ rfl st (osl.dep _ _ _ _ _)) ?_
  clear st h1
  repeat'(first|refine kv' ?_|apply jJ|refine jE' ?_|refine jp' ?_|(apply jc;kernel_rfl)|refine kg' ?_|refine kG' ?_|refine kB' fun _=>?_|refine kA' fun _=>?_|refine kK' fun _=>?_|refine kU' ?_|((first|refine kR' ?_ ?_|refine kQ' ?_ ?_);all_goals(intro hc;try simp only[hcs]at hc;try(exfalso;first|contradiction|omega))))
  apply CW.loop [6, 7, 8, 9, 28, 29, 30, 31, 32, 33, 34, 35, 36, 37, 38, 39, 40, 41, 42, 43, 44, 45, 46, 47, 48, 49, 50, 51, 52, 53, 54, 55, 56, 57, 58, 59, 60, 61, 62] (fun _ : Nat => True) (fun _ => [(6, .int .i64 20)]) (fun _ => St w F [pN a D.length c (isP D)]) (fun i => i)
  · exact fun w' hw' => ⟨0, trivial, ⟨rfl, trivial⟩, hw'⟩
  intro i g2 _
  repeat'(first|refine kv' ?_|apply jJ|refine jE' ?_|refine jp' ?_|(apply jc;kernel_rfl)|refine kg' ?_|refine kG' ?_|refine kB' fun _=>?_|refine kA' fun _=>?_|refine kK' fun _=>?_|refine kU' ?_|((first|refine kR' ?_ ?_|refine kQ' ?_ ?_);all_goals(intro hc;try simp only[hcs]at hc;try(exfalso;first|contradiction|omega))))
  apply end0; (· exact rfl); intro w' hS
  subst hF
  exact ⟨rfl, hS.step rfl⟩
theorem sortTo_of {N : Nat} (hs : ∀ (a : Option Addr) (c : Nat) (D : List Plc) (w : World), (pN a D.length c D).holds w → D.length ≤ N →
    CallsTo Try.prog 109 [.slice a D.length c, .int .i64 D.length, .func (.func 85) #[] #[]] w fun v w' => v = .tuple #[] ∧ Step (pN a D.length c D) (pN a D.length c (isP D)) w w') : SortTo N := by
  intro a c D w h hn
  have hS0 : St w (pN a D.length c D).foot [pN a D.length c D] w := St.one h (fun k hk => (World.ownsRow.lt h k hk).2) (osl.dep _ _ _ _ _)
  generalize hF : (pN a D.length c D).foot = F at *
  refine go_in (n := 6) hS0 Try.func56 rfl rfl ?_
  repeat'(first|refine kv' ?_|apply jJ|refine jE' ?_|refine jp' ?_|(apply jc;kernel_rfl)|refine kg' ?_|refine kG' ?_|refine kB' fun _=>?_|refine kA' fun _=>?_|refine kK' fun _=>?_|refine kU' ?_|((first|refine kR' ?_ ?_|refine kQ' ?_ ?_);all_goals(intro hc;try simp only[hcs]at hc;try(exfalso;first|contradiction|omega))))
  apply LR.call
  · exact rfl
  intro w1 h1
  have h84 : CallsTo Try.prog 84 [.slice a D.length c, .func (.func 85) #[] #[]] w1 fun v w' => v = .tuple #[] ∧ Step (pN a D.length c D) (pN a D.length c (isP D)) w1 w' := by
    have hh : (pN a D.length c D).holds w1 := h1.holds (pN a D.length c D) memZ
    have hS0 : St w1 (pN a D.length c D).foot [pN a D.length c D] w1 := St.one hh (fun k hk => (World.ownsRow.lt hh k hk).2) (osl.dep _ _ _ _ _)
    rw [hF] at hS0
    refine go_in (n := 9) hS0 Try.func84 rfl rfl ?_
    repeat'(first|refine kv' ?_|apply jJ|refine jE' ?_|refine jp' ?_|(apply jc;kernel_rfl)|refine kg' ?_|refine kG' ?_|refine kB' fun _=>?_|refine kA' fun _=>?_|refine kK' fun _=>?_|refine kU' ?_|((first|refine kR' ?_ ?_|refine kQ' ?_ ?_);all_goals(intro hc;try simp only[hcs]at hc;try(exfalso;first|contradiction|omega))))
    apply LR.call
    · exact rfl
    intro w3 h3
    refine CallsTo.mono (show CallsTo Try.prog 109 [.slice a D.length c, .int .i64 D.length, .func (.func 85) #[] #[]] w3 _ from hs a c D w3 (h3.holds (pN a D.length c D) memZ) hn) ?_
    rintro v w4 ⟨rfl, st⟩
    refine LR.back (h3.did selZ rfl st (osl.dep _ _ _ _ _)) ?_
    clear st h3
    repeat'(first|refine kv' ?_|apply jJ|refine jE' ?_|refine jp' ?_|(apply jc;kernel_rfl)|refine kg' ?_|refine kG' ?_|refine kB' fun _=>?_|refine kA' fun _=>?_|refine kK' fun _=>?_|refine kU' ?_|((first|refine kR' ?_ ?_|refine kQ' ?_ ?_);all_goals(intro hc;try simp only[hcs]at hc;try(exfalso;first|contradiction|omega))))
    apply end0; (· exact rfl); intro w' hS
    refine ⟨rfl, ?_⟩
    rw [← hF] at hS
    exact hS.step rfl
  refine h84.mono ?_
  rintro v w2 ⟨rfl, st⟩
  refine LR.back (h1.did selZ rfl st (osl.dep _ _ _ _ _)) ?_
  clear st h1 h84
  repeat'(first|refine kv' ?_|apply jJ|refine jE' ?_|refine jp' ?_|(apply jc;kernel_rfl)|refine kg' ?_|refine kG' ?_|refine kB' fun _=>?_|refine kA' fun _=>?_|refine kK' fun _=>?_|refine kU' ?_|((first|refine kR' ?_ ?_|refine kQ' ?_ ?_);all_goals(intro hc;try simp only[hcs]at hc;try(exfalso;first|contradiction|omega))))
  (apply ret1; (· exact rfl); intro w' hS)
  subst hF
  exact ⟨rfl, hS.step rfl⟩
theorem sort_few : SortTo 19 := sortTo_of m109s
end Go.Proofs.Ytgblmkpfkcibiaa

namespace Go.Proofs.Ytgblmkpfkcibiaa
open Go.Hb

theorem putP_perm (l : List Plc) (x : Plc) : (putP l x).Perm (x :: l) := by
  unfold putP
  have h : (l.take (cutP l x l.length) ++ x :: l.drop (cutP l x l.length)).Perm (x :: (l.take (cutP l x l.length) ++ l.drop (cutP l x l.length))) := List.perm_middle
  rwa [List.take_append_drop] at h
theorem isP_perm (l : List Plc) : (isP l).Perm l := by
  have : ∀ (l m : List Plc), (l.foldl putP m).Perm (m ++ l) := by
    intro l
    induction l with
    | nil => intro m; rw [List.append_nil]; exact List.Perm.refl _
    | cons x r ih =>
      intro m
      rw [List.foldl_cons]
      refine (ih _).trans ?_
      refine ((putP_perm m x).append_right r).trans ?_
      exact (List.perm_middle (a := x) (l₁ := m) (l₂ := r)).symm
  simpa [isP] using this l []
theorem cutP_spec (l : List Plc) (x : Plc) : ∀ k, k ≤ l.length → (∀ i, cutP l x k ≤ i → i < k → x.ring < (l.getD i zP).ring) ∧ (0 < cutP l x k → (l.getD (cutP l x k - 1) zP).ring ≤ x.ring)
  | 0, _ => ⟨fun i h1 h2 => by omega, fun h => by simp [cutP] at h⟩
  | k + 1, hk => by
    have ih := cutP_spec l x k (by omega)
    by_cases h : x.ring < (l.getD k zP).ring
    · have e : cutP l x (k + 1) = cutP l x k := by rw [cutP, if_pos h]
      rw [e]
      refine ⟨fun i h1 h2 => ?_, ih.2⟩
      by_cases hi : i = k
      · subst hi; exact h
      · exact ih.1 i h1 (by omega)
    · have e : cutP l x (k + 1) = k + 1 := by rw [cutP, if_neg h]
      rw [e]
      exact ⟨fun i h1 h2 => by omega, fun _ => by rw [Nat.add_sub_cancel]; omega⟩
def SorP (l : List Plc) : Prop := l.Pairwise fun a b => a.ring ≤ b.ring
theorem getD_plc (l : List Plc) {i : Nat} (h : i < l.length) : l.getD i zP = l[i] := by rw [List.getD_eq_getElem?_getD, List.getElem?_eq_getElem h]; rfl
theorem putP_sor {l : List Plc} (x : Plc) (h : SorP l) : SorP (putP l x) := by
  have hsp := cutP_spec l x l.length (Nat.le_refl _)
  have hle := cutP_le l x l.length
  unfold SorP putP at *
  generalize cutP l x l.length = c at *
  have hs := List.pairwise_iff_getElem.1 h
  rw [List.pairwise_append, List.pairwise_cons]
  refine ⟨h.sublist (List.take_sublist _ _), ⟨fun y hy => ?_, h.sublist (List.drop_sublist _ _)⟩, fun a ha b hb => ?_⟩
  · obtain ⟨i, hi, rfl⟩ := List.getElem_of_mem hy
    rw [List.length_drop] at hi
    rw [List.getElem_drop]
    have := hsp.1 (c + i) (by omega) (by omega)
    rw [getD_plc l (by omega)] at this
    omega
  · obtain ⟨i, hi, rfl⟩ := List.getElem_of_mem ha
    rw [List.length_take] at hi
    rw [List.getElem_take]
    rcases List.mem_cons.1 hb with rfl | hb
    · have h1 := hsp.2 (by omega)
      rw [getD_plc l (by omega)] at h1
      by_cases hic : i = c - 1
      · subst hic; exact h1
      · have := hs i (c - 1) (by omega) (by omega) (by omega)
        omega
    · obtain ⟨j, hj, rfl⟩ := List.getElem_of_mem hb
      rw [List.length_drop] at hj
      rw [List.getElem_drop]
      exact hs i (c + j) (by omega) (by omega) (by omega)
theorem isP_sor (l : List Plc) : SorP (isP l) := by
  have : ∀ (l m : List Plc), SorP m → SorP (l.foldl putP m) := by
    intro l
    induction l with
    | nil => intro m h; exact h
    | cons x r ih => intro m h; exact ih _ (putP_sor x h)
  exact this l [] List.Pairwise.nil
def plcK (K : List Plc) (r : Int) : Option Plc := K.find? fun x => decide (x.ring = r)
theorem plcK_ring {K : List Plc} {r : Int} {x : Plc} (h : plcK K r = some x) : x.ring = r := by
  unfold plcK at h; simpa using List.find?_some h
def leftS (l : List (Int × Plc)) (x : Plc) : List (Int × Plc) := if l.any (fun q => decide (q.1 = x.ring)) then l else l ++ [(x.ring, x)]
def leftL (K : List Plc) : List (Int × Plc) := K.foldl leftS []
def assoc (l : List (Int × Plc)) (r : Int) : Option Plc := (l.find? fun q => decide (q.1 = r)).map Prod.snd
structure LeftOk (K : List Plc) (l : List (Int × Plc)) : Prop where
  nd : (l.map Prod.fst).Nodup
  eq : ∀ r, assoc l r = plcK K r
theorem find_none {l : List (Int × Plc)} {r : Int} : l.find? (fun q => decide (q.1 = r)) = none ↔ l.any (fun q => decide (q.1 = r)) = false := by
  rw [List.find?_eq_none, List.any_eq_false]
theorem left_ok : ∀ (L K : List Plc) (l : List (Int × Plc)), LeftOk K l → LeftOk (K ++ L) (L.foldl leftS l)
  | [], K, l, h => by rwa [List.append_nil]
  | x :: r, K, l, h => by
    have : LeftOk (K ++ [x]) (leftS l x) := by
      unfold leftS
      cases ha : l.any (fun q => decide (q.1 = x.ring)) with
      | true =>
        rw [if_pos rfl]
        refine ⟨h.nd, fun s => ?_⟩
        rw [h.eq]
        unfold plcK
        rw [List.find?_append]
        cases hf : K.find? (fun x => decide (x.ring = s)) with
        | some y => rfl
        | none =>
          by_cases hs : x.ring = s
          · exfalso
            have h2 := h.eq s
            unfold plcK at h2
            rw [hf] at h2
            unfold assoc at h2
            rw [Option.map_eq_none_iff, find_none] at h2
            rw [hs, h2] at ha
            cases ha
          · simp [hs]
      | false =>
        rw [if_neg (by simp)]
        refine ⟨?_, fun s => ?_⟩
        · rw [List.map_append, List.nodup_append]
          refine ⟨h.nd, by simp, fun a ha' b hb e => ?_⟩
          simp only [List.map_cons, List.map_nil, List.mem_singleton] at hb
          obtain ⟨q, hq, rfl⟩ := List.mem_map.1 ha'
          have := List.any_eq_false.1 ha q hq
          simp at this
          exact this (by rw [e, hb])
        · have h2 := h.eq s
          unfold assoc plcK at *
          rw [List.find?_append, List.find?_append, ← h2]
          cases hf : l.find? (fun q => decide (q.1 = s)) with
          | some y => rfl
          | none => by_cases hs : x.ring = s <;> simp [hs]
    have := left_ok r (K ++ [x]) _ this
    rw [List.append_assoc] at this
    exact this
theorem leftL_ok (K : List Plc) : LeftOk K (leftL K) := left_ok K [] [] ⟨List.nodup_nil, fun r => rfl⟩
theorem leftL_len (K : List Plc) : (leftL K).length ≤ K.length := by
  have : ∀ (L : List Plc) (l : List (Int × Plc)), (L.foldl leftS l).length ≤ l.length + L.length := by
    intro L
    induction L with
    | nil => intro l; simp
    | cons x r ih =>
      intro l
      rw [List.foldl_cons]
      have h1 := ih (leftS l x)
      have h2 : (leftS l x).length ≤ l.length + 1 := by unfold leftS; split <;> simp
      rw [List.length_cons]
      omega
  have h := this K []
  simpa [leftL] using h
def farD (p : List Int × List Gat) (n r : Int) : Int := (farT p.1 p.2 n r).getD 0
def stepsR (p : List Int × List Gat) (K : List Plc) (a b : Int) : Bool := match plcK K a, plcK K b with
  | some x, some y => (List.range 8).any fun i => decide (farT p.1 p.2 ((i + 1 : Nat) : Int) a = some b) && (hasC x.members ((i + 1 : Nat) : Int) && hasC y.members ((i + 1 : Nat) : Int))
  | _, _ => false
inductive Rch (st : Int → Int → Bool) (a : Int) : Int → Prop
  | refl : Rch st a a
  | step {b c : Int} (h : Rch st a b) (hs : st b c = true) : Rch st a c
theorem Rch.trans {st : Int → Int → Bool} {a b c : Int} (h : Rch st a b) (h2 : Rch st b c) : Rch st a c := by
  induction h2 with
  | refl => exact h
  | step _ hs ih => exact ih.step hs
abbrev SV : Type := List Plc × List (Int × Plc)
def dfsP (p : List Int × List Gat) : Nat → Plc → SV → SV
  | 0, _, s => s
  | k + 1, x, s => (gwsT p.1 p.2 x.ring).foldl (fun s n => match assoc s.2 (farD p n x.ring) with
    | some y => if hasC x.members n && hasC y.members n then dfsP p k y s else s
    | none => s) (s.1 ++ [x], s.2.filter fun q => decide (q.1 ≠ x.ring))
def dStep (p : List Int × List Gat) (k : Nat) (x : Plc) (s : SV) (n : Int) : SV := match assoc s.2 (farD p n x.ring) with
  | some y => if hasC x.members n && hasC y.members n then dfsP p k y s else s
  | none => s
theorem dfsP_succ (p : List Int × List Gat) (k : Nat) (x : Plc) (s : SV) : dfsP p (k + 1) x s = (gwsT p.1 p.2 x.ring).foldl (dStep p k x) (s.1 ++ [x], s.2.filter fun q => decide (q.1 ≠ x.ring)) := rfl
structure InvS (K : List Plc) (s : SV) : Prop where
  eq : s.2 = (leftL K).filter fun q => !(s.1.map Plc.ring).contains q.1
  pl : ∀ y ∈ s.1, plcK K y.ring = some y
  nd : (s.1.map Plc.ring).Nodup
theorem assoc_filter {l : List (Int × Plc)} {f : Int → Bool} (r : Int) : assoc (l.filter fun q => f q.1) r = if f r then assoc l r else none := by
  unfold assoc
  induction l with
  | nil => simp
  | cons q t ih =>
    rw [List.filter_cons]
    by_cases hq : q.1 = r
    · subst hq
      cases hf : f q.1 with
      | true => rw [if_pos rfl, if_pos rfl, List.find?_cons_of_pos (by simp), List.find?_cons_of_pos (by simp)]
      | false => rw [if_neg (by simp), if_neg (by simp)]; rw [ih, hf]; simp
    · cases hf : f q.1 with
      | true => rw [if_pos rfl, List.find?_cons_of_neg (by simpa using hq), List.find?_cons_of_neg (by simpa using hq), ih]
      | false => rw [if_neg (by simp), List.find?_cons_of_neg (by simpa using hq), ih]
theorem InvS.assoc {K : List Plc} {s : SV} (h : InvS K s) (r : Int) : Go.Proofs.Ytgblmkpfkcibiaa.assoc s.2 r = if (s.1.map Plc.ring).contains r then none else plcK K r := by
  rw [h.eq, assoc_filter (f := fun r => !(s.1.map Plc.ring).contains r), (leftL_ok K).eq]
  cases (s.1.map Plc.ring).contains r <;> rfl
theorem InvS.add {K : List Plc} {s : SV} (h : InvS K s) {x : Plc} (hx : Go.Proofs.Ytgblmkpfkcibiaa.assoc s.2 x.ring = some x) : InvS K (s.1 ++ [x], s.2.filter fun q => decide (q.1 ≠ x.ring)) := by
  rw [h.assoc] at hx
  split at hx
  · cases hx
  rename_i hn
  refine ⟨?_, fun y hy => ?_, ?_⟩
  · simp only
    rw [h.eq, List.filter_filter]
    refine List.filter_congr fun q _ => ?_
    rw [List.map_append, List.contains_append, Bool.not_or, Bool.and_comm]
    congr 1
    simp
  · rcases List.mem_append.1 hy with hy | hy
    · exact h.pl y hy
    · rw [List.mem_singleton] at hy; rw [hy]; exact hx
  · show ((s.1 ++ [x]).map Plc.ring).Nodup
    rw [List.map_append, List.nodup_append]
    refine ⟨h.nd, by simp, fun a ha b hb e => hn ?_⟩
    simp only [List.map_cons, List.map_nil, List.mem_singleton] at hb
    rw [← hb, ← e]
    simpa using ha
theorem filter_lt {l : List (Int × Plc)} {r : Int} (h : (assoc l r).isSome = true) : (l.filter fun q => decide (q.1 ≠ r)).length < l.length := by
  have : ∃ q ∈ l, q.1 = r := by
    unfold assoc at h
    rw [Option.isSome_map, List.find?_isSome] at h
    obtain ⟨q, hq, he⟩ := h
    exact ⟨q, hq, by simpa using he⟩
  obtain ⟨q, hq, he⟩ := this
  have h1 := List.length_filter_lt_length_iff_exists (p := fun q : Int × Plc => decide (q.1 ≠ r)) (l := l)
  exact h1.2 ⟨q, hq, by simp [he]⟩
theorem far_gws {R : List Int} {G : List Gat} {n r : Int} : n ∈ gwsT R G r ↔ (1 ≤ n ∧ n ≤ 8) ∧ (farT R G n r).isSome = true := by
  unfold gwsT; rw [gwsTo_mem]; rfl
theorem stepsR_iff {p : List Int × List Gat} {K : List Plc} {a b : Int} : stepsR p K a b = true ↔ ∃ x y n, plcK K a = some x ∧ plcK K b = some y ∧ n ∈ gwsT p.1 p.2 a ∧ farT p.1 p.2 n a = some b ∧ hasC x.members n = true ∧ hasC y.members n = true := by
  unfold stepsR
  cases ha : plcK K a with
  | none => simp
  | some x =>
    cases hb : plcK K b with
    | none => simp
    | some y =>
      simp only [List.any_eq_true, List.mem_range, Bool.and_eq_true, decide_eq_true_eq]
      constructor
      · rintro ⟨i, hi, h1, h2, h3⟩
        exact ⟨x, y, _, rfl, rfl, far_gws.2 ⟨by omega, by rw [h1]; rfl⟩, h1, h2, h3⟩
      · rintro ⟨x', y', n, e1, e2, hn, h1, h2, h3⟩
        cases e1; cases e2
        have hr := (far_gws.1 hn).1
        refine ⟨n.toNat - 1, by omega, ?_⟩
        have e : ((n.toNat - 1 + 1 : Nat) : Int) = n := by omega
        rw [e]
        exact ⟨h1, h2, h3⟩
structure DoneS (p : List Int × List Gat) (K : List Plc) (r : Int) (s s' : SV) (t : List Plc) : Prop where
  inv : InvS K s'
  eq : s'.1 = s.1 ++ t
  rch : ∀ y ∈ t, Rch (stepsR p K) r y.ring
  clo : ∀ y ∈ t, ∀ b, stepsR p K y.ring b = true → b ∈ s'.1.map Plc.ring
  len : s'.2.length ≤ s.2.length
theorem dfs_done (p : List Int × List Gat) (K : List Plc) : ∀ (k : Nat) (x : Plc) (s : SV), InvS K s → assoc s.2 x.ring = some x → s.2.length ≤ k → ∃ t, DoneS p K x.ring s (dfsP p k x s) t ∧ x ∈ t
  | 0, x, s, hi, hx, hl => by
    have : s.2 = [] := List.eq_nil_of_length_eq_zero (by omega)
    rw [this] at hx
    cases hx
  | k + 1, x, s, hi, hx, hl => by
    rw [dfsP_succ]
    have hi0 := hi.add hx
    have hlt := filter_lt (l := s.2) (r := x.ring) (by rw [hx]; rfl)
    obtain ⟨s0, hs0⟩ : ∃ s0 : SV, s0 = (s.1 ++ [x], s.2.filter fun q => decide (q.1 ≠ x.ring)) := ⟨_, rfl⟩
    have hpx : plcK K x.ring = some x := by
      have := hi0.pl x (by simp)
      exact this
    rw [← hs0] at hi0 ⊢
    have hs02 : s0.2.length < s.2.length := by rw [hs0]; exact hlt
    have hl0 : s0.2.length ≤ k := by omega
    have key : ∀ (ns : List Int) (s1 : SV) (t : List Plc), (∀ n ∈ ns, n ∈ gwsT p.1 p.2 x.ring) → DoneS p K x.ring s0 s1 t →
        ∃ t', DoneS p K x.ring s0 (ns.foldl (dStep p k x) s1) t' ∧ (∀ z ∈ s1.1.map Plc.ring, z ∈ (ns.foldl (dStep p k x) s1).1.map Plc.ring) ∧ ∀ n ∈ ns, ∀ b y, farT p.1 p.2 n x.ring = some b → plcK K b = some y → hasC x.members n = true → hasC y.members n = true → b ∈ (ns.foldl (dStep p k x) s1).1.map Plc.ring := by
      intro ns
      induction ns with
      | nil => intro s1 t _ hd; exact ⟨t, hd, fun z hz => hz, fun n hn => by cases hn⟩
      | cons n ns ih =>
        intro s1 t hns hd
        have hn := hns n List.mem_cons_self
        have hns' : ∀ m ∈ ns, m ∈ gwsT p.1 p.2 x.ring := fun m hm => hns m (List.mem_cons_of_mem _ hm)
        obtain ⟨b, hb⟩ := Option.isSome_iff_exists.1 (far_gws.1 hn).2
        have hfd : farD p n x.ring = b := by unfold farD; rw [hb]; rfl
        -- what one node does
        have one : ∃ t1, DoneS p K x.ring s0 (dStep p k x s1 n) t1 ∧ (∀ z ∈ s1.1.map Plc.ring, z ∈ (dStep p k x s1 n).1.map Plc.ring) ∧ ∀ y, plcK K b = some y → hasC x.members n = true → hasC y.members n = true → b ∈ (dStep p k x s1 n).1.map Plc.ring := by
          unfold dStep
          rw [hfd, hd.inv.assoc]
          by_cases hc : (s1.1.map Plc.ring).contains b = true
          · rw [if_pos hc]
            exact ⟨t, hd, fun z hz => hz, fun y _ _ _ => by simpa using hc⟩
          · rw [if_neg hc]
            cases hpb : plcK K b with
            | none => exact ⟨t, hd, fun z hz => hz, fun y h => by cases h⟩
            | some y =>
              have hyr := plcK_ring hpb
              cases hh : hasC x.members n && hasC y.members n with
              | false =>
                simp only [hh, Bool.false_eq_true, if_false]
                exact ⟨t, hd, fun z hz => hz, fun y' e h1 h2 => by cases e; rw [h1, h2] at hh; cases hh⟩
              | true =>
                simp only [hh, if_true]
                have ha : assoc s1.2 y.ring = some y := by rw [hd.inv.assoc, hyr, if_neg hc, hpb]
                obtain ⟨u, hu, hyu⟩ := dfs_done p K k y s1 hd.inv ha (by have := hd.len; omega)
                have hst : stepsR p K x.ring y.ring = true := by
                  rw [Bool.and_eq_true] at hh
                  rw [hyr]
                  exact stepsR_iff.2 ⟨x, y, n, hpx, hpb, hn, hb, hh.1, hh.2⟩
                have hmono : ∀ z ∈ s1.1.map Plc.ring, z ∈ (dfsP p k y s1).1.map Plc.ring := fun z hz => by
                  rw [hu.eq, List.map_append]; exact List.mem_append_left _ hz
                refine ⟨t ++ u, ⟨hu.inv, by rw [hu.eq, hd.eq, List.append_assoc], fun z hz => ?_, fun z hz c hc2 => ?_, by have := hu.len; have := hd.len; omega⟩, hmono, fun y' e h1 h2 => ?_⟩
                · rcases List.mem_append.1 hz with hz | hz
                  · exact hd.rch z hz
                  · exact (Rch.refl.step hst).trans (hu.rch z hz)
                · rcases List.mem_append.1 hz with hz | hz
                  · exact hmono c (hd.clo z hz c hc2)
                  · exact hu.clo z hz c hc2
                · rw [← hyr, hu.eq, List.map_append]
                  exact List.mem_append_right _ (List.mem_map_of_mem hyu)
        obtain ⟨t1, hd1, hm1, hb1⟩ := one
        obtain ⟨t2, hd2, hm2, hb2⟩ := ih (dStep p k x s1 n) t1 hns' hd1
        rw [List.foldl_cons]
        refine ⟨t2, hd2, fun z hz => hm2 z (hm1 z hz), fun m hm c y hc hy h1 h2 => ?_⟩
        rcases List.mem_cons.1 hm with rfl | hm
        · rw [hb] at hc
          cases hc
          exact hm2 _ (hb1 y hy h1 h2)
        · exact hb2 m hm c y hc hy h1 h2
    obtain ⟨t, hd, hm, hb⟩ := key (gwsT p.1 p.2 x.ring) s0 [] (fun n hn => hn) ⟨hi0, by rw [List.append_nil], fun y hy => (by cases hy), fun y hy => (by cases hy), Nat.le_refl _⟩
    refine ⟨x :: t, ⟨hd.inv, by rw [hd.eq, hs0]; simp, fun y hy => ?_, fun y hy b hst => ?_, by have := hd.len; omega⟩, List.mem_cons_self⟩
    · rcases List.mem_cons.1 hy with rfl | hy
      · exact Rch.refl
      · exact hd.rch y hy
    · rcases List.mem_cons.1 hy with rfl | hy
      · obtain ⟨x', y', n, e1, e2, hn, h1, h2, h3⟩ := stepsR_iff.1 hst
        rw [hpx] at e1
        cases e1
        exact hb n hn b y' h1 e2 h2 h3
      · exact hd.clo y hy b hst
def viewP (p : List Int × List Gat) (fr : Int) (K : List Plc) : List Plc :=
  if chkP p.1 p.2 && ringG p.1 fr then (match plcK K fr with
    | some x => isP (dfsP p (leftL K).length x ([], leftL K)).1
    | none => [])
  else []
structure ViewIs (p : List Int × List Gat) (K : List Plc) (fr : Int) (v : List Plc) : Prop where
  pl : ∀ y ∈ v, plcK K y.ring = some y
  asc : (v.map Plc.ring).Pairwise (· < ·)
  mem : ∀ r, r ∈ v.map Plc.ring ↔ Rch (stepsR p K) fr r
theorem ViewIs.uniq {p : List Int × List Gat} {K : List Plc} {fr : Int} {v u : List Plc} (h : ViewIs p K fr v) (h2 : ViewIs p K fr u) : v = u := by
  have e : v.map Plc.ring = u.map Plc.ring := asc_extM h.asc h2.asc fun x => by rw [h.mem, h2.mem]
  have key : ∀ l : List Plc, (∀ y ∈ l, plcK K y.ring = some y) → (l.map Plc.ring).map (fun r => (plcK K r).getD zP) = l := by
    intro l hl
    rw [List.map_map]
    conv => rhs; rw [← List.map_id l]
    exact List.map_congr_left fun y hy => by simp [hl y hy]
  rw [← key v h.pl, ← key u h2.pl, e]
theorem view_is {p : List Int × List Gat} {fr : Int} {K : List Plc} {x : Plc} (hx : plcK K fr = some x) : ViewIs p K fr (isP (dfsP p (leftL K).length x ([], leftL K)).1) := by
  have hxr := plcK_ring hx
  have hi0 : InvS K ([], leftL K) := ⟨(List.filter_eq_self.2 (fun q _ => rfl)).symm, fun y hy => (by cases hy), List.nodup_nil⟩
  obtain ⟨t, hd, hxt⟩ := dfs_done p K (leftL K).length x ([], leftL K) hi0 (by rw [(leftL_ok K).eq, hxr, hx]) (Nat.le_refl _)
  have he : (dfsP p (leftL K).length x ([], leftL K)).1 = t := by rw [hd.eq]; rfl
  have hinv := hd.inv
  have hclo := hd.clo
  rw [he] at hclo ⊢
  have hpm := isP_perm t
  have hpl := hinv.pl
  have hnd := hinv.nd
  rw [he] at hpl hnd
  refine ⟨fun y hy => hpl y (hpm.mem_iff.1 hy), ?_, fun r => ?_⟩
  · have h1 := isP_sor t
    have h2 : ((isP t).map Plc.ring).Nodup := (hpm.map Plc.ring).nodup_iff.2 hnd
    rw [List.nodup_iff_pairwise_ne, List.pairwise_map] at h2
    rw [List.pairwise_map]
    unfold SorP at h1
    exact (List.Pairwise.and h1 h2).imp fun {a b} h => by have := h.1; have := h.2; omega
  · rw [(hpm.map Plc.ring).mem_iff]
    constructor
    · intro hr
      obtain ⟨y, hy, rfl⟩ := List.mem_map.1 hr
      have := hd.rch y hy
      rwa [hxr] at this
    · intro hr
      induction hr with
      | refl => rw [← hxr]; exact List.mem_map_of_mem hxt
      | step _ hs ih =>
        obtain ⟨y, hy, rfl⟩ := List.mem_map.1 ih
        exact hclo y hy _ hs
end Go.Proofs.Ytgblmkpfkcibiaa

namespace Go.Proofs.Ytgblmkpfkcibiaa
open Go.Hb
attribute [local irreducible] LR CW At Ev thn blk finK noG again CallsTo DW QL dnext TW DP gpost
set_option maxRecDepth 100000

instance : KMap Try.prog 91 (intK IntKind.i64) okK (zP.val) := KMap.ofInt Try.underlying91 Try.underlying3 (fun w => Try.zeroValue44 w)
def kvs (l : List (Int × Plc)) : List (Int × Value) := l.map fun q => (q.1, q.2.val)
theorem kvs_fst (l : List (Int × Plc)) : (kvs l).map Prod.fst = l.map Prod.fst := by unfold kvs; rw [List.map_map]; rfl
theorem kvs_filter (l : List (Int × Plc)) (r : Int) : (kvs l).filter (fun q => decide (q.1 ≠ r)) = kvs (l.filter fun q => decide (q.1 ≠ r)) := by unfold kvs; rw [List.filter_map]; rfl
theorem kvs_snoc (l : List (Int × Plc)) (x : Plc) : kvs l ++ [(x.ring, x.val)] = kvs (l ++ [(x.ring, x)]) := by unfold kvs; rw [List.map_append]; rfl
theorem assoc_mem {l : List (Int × Plc)} {r : Int} {y : Plc} (h : assoc l r = some y) : (r, y.val) ∈ kvs l := by
  unfold assoc at h
  rw [Option.map_eq_some_iff] at h
  obtain ⟨q, hq, rfl⟩ := h
  have h1 := List.mem_of_find?_eq_some hq
  have h2 : q.1 = r := by simpa using List.find?_some hq
  exact List.mem_map.2 ⟨q, h1, by rw [h2]⟩
theorem assoc_no {l : List (Int × Plc)} {r : Int} (h : assoc l r = none) : ∀ q ∈ kvs l, q.1 ≠ r := by
  unfold assoc at h
  rw [Option.map_eq_none_iff, List.find?_eq_none] at h
  intro q hq e
  obtain ⟨z, hz, rfl⟩ := List.mem_map.1 hq
  exact h z hz (by simpa using e)
theorem any_no {l : List (Int × Plc)} {r : Int} (h : l.any (fun q => decide (q.1 = r)) = false) : assoc l r = none := by unfold assoc; rw [Option.map_eq_none_iff, find_none]; exact h
theorem any_yes {l : List (Int × Plc)} {r : Int} (h : l.any (fun q => decide (q.1 = r)) = true) : ∃ y, assoc l r = some y := by
  cases hx : assoc l r with
  | some y => exact ⟨y, rfl⟩
  | none =>
    exfalso
    unfold assoc at hx
    rw [Option.map_eq_none_iff, find_none, h] at hx
    cases hx
abbrev kM91 (bm : Nat) (l : List (Int × Plc)) : Asrt := kmap (intK IntKind.i64) bm (kvs l)
abbrev oC (bo : Nat) (a : Option Addr) (n c : Nat) : Asrt := .own bo (.cells [Value.slice a n c].toArray 37 (0, 0))
abbrev lC (bl bm : Nat) : Asrt := .own bl (.cells [Value.map (some bm)].toArray 91 (0, 0))
def vG (bo bl bm : Nat) (a : Option Addr) (c : Nat) (s : SV) : Asrt := both (oC bo a s.1.length c) (both (pN a s.1.length c s.1) (both (lC bl bm) (kM91 bm s.2)))
section
variable {bo bl bm : Nat} {a : Option Addr} {c : Nat} {s : SV} {w0 w : World} {F : Nat → Prop} {R : List Asrt}
theorem vG_dep : (vG bo bl bm a c s).dep := both_dep (Asrt.dep_own _ _) (both_dep (osl.dep _ _ _ _ _) (both_dep (Asrt.dep_own _ _) (kmap.dep _ _)))
theorem vG_open (h : St w0 F (vG bo bl bm a c s :: R) w) : St w0 F (oC bo a s.1.length c :: pN a s.1.length c s.1 :: lC bl bm :: kM91 bm s.2 :: R) w := by
  have h1 := (h.part (Asrt.dep_own _ _) (both_dep (osl.dep _ _ _ _ _) (both_dep (Asrt.dep_own _ _) (kmap.dep _ _)))).swap
  have h2 := h1.part (osl.dep _ _ _ _ _) (both_dep (Asrt.dep_own _ _) (kmap.dep _ _))
  have h3 := h2.swap.part (Asrt.dep_own _ _) (kmap.dep _ _)
  have h4 : St w0 F (pN a s.1.length c s.1 :: lC bl bm :: kM91 bm s.2 :: oC bo a s.1.length c :: R) w := front h3 2 rfl rfl
  exact front h4 3 rfl rfl
theorem vG_shut (h : St w0 F (oC bo a s.1.length c :: pN a s.1.length c s.1 :: lC bl bm :: kM91 bm s.2 :: R) w) : St w0 F (vG bo bl bm a c s :: R) w := by
  have h1 : St w0 F (kM91 bm s.2 :: oC bo a s.1.length c :: pN a s.1.length c s.1 :: lC bl bm :: R) w := front h 3 rfl rfl
  have h2 : St w0 F (lC bl bm :: kM91 bm s.2 :: oC bo a s.1.length c :: pN a s.1.length c s.1 :: R) w := front h1 3 rfl rfl
  have h3 := h2.join rfl rfl
  have h4 : St w0 F (pN a s.1.length c s.1 :: both (lC bl bm) (kM91 bm s.2) :: oC bo a s.1.length c :: R) w := front h3 2 rfl rfl
  have h5 := (h4.join rfl rfl).swap
  exact h5.join rfl rfl
end
def WfL (l : List (Int × Plc)) : Prop := ∀ q ∈ l, q.2.ring = q.1
theorem WfL.get {l : List (Int × Plc)} (h : WfL l) {r : Int} {y : Plc} (hy : assoc l r = some y) : y.ring = r := by
  unfold assoc at hy
  rw [Option.map_eq_some_iff] at hy
  obtain ⟨q, hq, rfl⟩ := hy
  have h2 : q.1 = r := by simpa using List.find?_some hq
  rw [h q (List.mem_of_find?_eq_some hq), h2]
theorem WfL.sub {l m : List (Int × Plc)} (h : WfL l) (hs : m.Sublist l) : WfL m := fun q hq => h q (hs.subset hq)
theorem dfs_len (p : List Int × List Gat) : ∀ (k : Nat) (x : Plc) (s : SV), WfL s.2 → (assoc s.2 x.ring).isSome = true → (dfsP p k x s).1.length + (dfsP p k x s).2.length ≤ s.1.length + s.2.length ∧ (dfsP p k x s).2.Sublist s.2
  | 0, x, s, _, h => by rw [dfsP]; exact ⟨Nat.le_refl _, List.Sublist.refl _⟩
  | k + 1, x, s, hw, h => by
    rw [dfsP_succ]
    have hlt := filter_lt h
    have key : ∀ (ns : List Int) (s1 : SV), WfL s1.2 → (ns.foldl (dStep p k x) s1).1.length + (ns.foldl (dStep p k x) s1).2.length ≤ s1.1.length + s1.2.length ∧ (ns.foldl (dStep p k x) s1).2.Sublist s1.2 := by
      intro ns
      induction ns with
      | nil => intro s1 _; exact ⟨Nat.le_refl _, List.Sublist.refl _⟩
      | cons n ns ih =>
        intro s1 hw1
        rw [List.foldl_cons]
        have one : (dStep p k x s1 n).1.length + (dStep p k x s1 n).2.length ≤ s1.1.length + s1.2.length ∧ (dStep p k x s1 n).2.Sublist s1.2 := by
          unfold dStep
          split
          · rename_i y hy
            split
            · exact dfs_len p k y s1 hw1 (by rw [hw1.get hy, hy]; rfl)
            · exact ⟨Nat.le_refl _, List.Sublist.refl _⟩
          · exact ⟨Nat.le_refl _, List.Sublist.refl _⟩
        have h2 := ih (dStep p k x s1 n) (hw1.sub one.2)
        exact ⟨Nat.le_trans h2.1 one.1, h2.2.trans one.2⟩
    have h2 := key (gwsT p.1 p.2 x.ring) (s.1 ++ [x], s.2.filter fun q => decide (q.1 ≠ x.ring)) (hw.sub List.filter_sublist)
    refine ⟨Nat.le_trans h2.1 ?_, h2.2.trans List.filter_sublist⟩
    simp only [List.length_append, List.length_cons, List.length_nil]
    omega
structure EnvG (w : World) (p : Pln) (A : PlA) (bo bl bp bf : Nat) (F : Nat → Prop) : Prop where
  pr : PlR w p A
  bx : Rd w (some ⟨bp, 0, none⟩) (p.cells A)
  fn : Rd w (some ⟨bf, 0, none⟩) [.func (.func 55) #[] #[.pointer (some ⟨bo, 0, none⟩), .pointer (some ⟨bl, 0, none⟩), .pointer (some ⟨bp, 0, none⟩), .pointer (some ⟨bf, 0, none⟩)]]
  d1 : ∀ k, rdFoot A.ra (iv p.R) k → ¬ F k
  d2 : ∀ k, rdFoot A.ga (gv p.G) k → ¬ F k
  d3 : ∀ k, rdFoot (some ⟨bp, 0, none⟩) (p.cells A) k → ¬ F k
  d4 : ∀ k, rdFoot (some ⟨bf, 0, none⟩) [Value.func (.func 55) #[] #[.pointer (some ⟨bo, 0, none⟩), .pointer (some ⟨bl, 0, none⟩), .pointer (some ⟨bp, 0, none⟩), .pointer (some ⟨bf, 0, none⟩)]] k → ¬ F k
theorem EnvG.old {w w0 : World} {p : Pln} {A : PlA} {bo bl bp bf : Nat} {F : Nat → Prop} {L : List Asrt} (h : EnvG w0 p A bo bl bp bf F) (h1 : St w0 F L w) : PlR w p A ∧ Rd w (some ⟨bp, 0, none⟩) (p.cells A) ∧ Rd w (some ⟨bf, 0, none⟩) [.func (.func 55) #[] #[.pointer (some ⟨bo, 0, none⟩), .pointer (some ⟨bl, 0, none⟩), .pointer (some ⟨bp, 0, none⟩), .pointer (some ⟨bf, 0, none⟩)]] :=
  ⟨⟨h1.oldRdF h.pr.r h.d1, h1.oldRdF h.pr.g h.d2⟩, h1.oldRdF h.bx h.d3, h1.oldRdF h.fn h.d4⟩
structure GSt where
  i : Nat
  a : Option Addr
  c : Nat
  s : SV
set_option maxHeartbeats 4000000 in
theorem m55 (p : Pln) (A : PlA) (hi : PlI p) (bo bl bm bp bf : Nat) : ∀ (k : Nat) (x : Plc) (a : Option Addr) (c : Nat) (s : SV) (w : World), (vG bo bl bm a c s).holds w → EnvG w p A bo bl bp bf (vG bo bl bm a c s).foot →
    (s.2.map Prod.fst).Nodup → WfL s.2 → (assoc s.2 x.ring).isSome = true → s.2.length ≤ k → (s.1.length + s.2.length) * 32 ≤ 140737488355328 →
    CallsTo Try.prog 55 [x.val, .pointer (some ⟨bo, 0, none⟩), .pointer (some ⟨bl, 0, none⟩), .pointer (some ⟨bp, 0, none⟩), .pointer (some ⟨bf, 0, none⟩)] w fun v w' => v = .tuple #[] ∧ ∃ a' c', Step (vG bo bl bm a c s) (vG bo bl bm a' c' (dfsP (p.R, p.G) k x s)) w w' := by
  intro k
  induction k with
  | zero =>
    intro x a c s w _ _ _ _ hx hl _
    have : s.2 = [] := List.eq_nil_of_length_eq_zero (by omega)
    rw [this] at hx
    cases hx
  | succ k ih =>
    intro x a c s w hh hE hnd hwf hx hl hm
    have hlt := filter_lt hx
    have hS0 := (((((St.one hh (both_live hh) vG_dep).addRd hE.pr.r hE.d1).addRd hE.pr.g hE.d2).addRd hE.bx hE.d3).addRd hE.fn hE.d4)
    have hS1 := vG_open (R := [rdA (some ⟨bf, 0, none⟩) [.func (.func 55) #[] #[.pointer (some ⟨bo, 0, none⟩), .pointer (some ⟨bl, 0, none⟩), .pointer (some ⟨bp, 0, none⟩), .pointer (some ⟨bf, 0, none⟩)]], rdA (some ⟨bp, 0, none⟩) (p.cells A), rdA A.ga (gv p.G), rdA A.ra (iv p.R)]) (front hS0 4 rfl rfl)
    generalize hF : (vG bo bl bm a c s).foot = F at *
    refine go_in (n := 59) hS1 Try.func55 rfl rfl ?_
    repeat'(first|(refine kB' fun bx => ?_)|(apply Go.Hb.kK;(iterate 4 exact rfl);intro bs)|refine kv' ?_|apply jJ|refine jE' ?_|refine jp' ?_|(apply jc;kernel_rfl)|refine kg' ?_|refine kG' ?_|refine kB' fun _=>?_|refine kA' fun _=>?_|refine kK' fun _=>?_|refine kU' ?_|(apply LR.append (xs := pcs s.1) (news := x.cells) (m := 1); (· exact rfl); (· exact rfl); (· intro a' c'; (repeat (first | exact sH _ _ _ | apply sT))); (· exact fun w' hw' => hw'.rd_of_blk (mH _ _)); (· exact fun hx => by cases hx); (· exact rfl); (· exact rfl); (· omega); (· unfold maxLen; omega); (· exact rfl); (intro a3 c3))|((first|refine kR' ?_ ?_|refine kQ' ?_ ?_);all_goals(intro hc;try simp only[hcs]at hc;try(exfalso;first|contradiction|omega))))
    refine LR.deleteK (enc := intK IntKind.i64) (ok := okK) (l := kvs s.2) (a := x.ring) (K1 := 3) (by kernel_rfl) rfl rfl selZ (fun _ _ => trivial) (by rw [kvs_fst]; exact hnd) trivial ?_
    rw [kvs_filter]
    obtain ⟨s0, hs0⟩ : ∃ s0 : SV, s0 = (s.1 ++ [x], s.2.filter fun q => decide (q.1 ≠ x.ring)) := ⟨_, rfl⟩
    have hs1 : s0.1.length = s.1.length + 1 := by rw [hs0]; simp
    have hs2 : s0.2.length < s.2.length := by rw [hs0]; exact hlt
    have hnd0 : (s0.2.map Prod.fst).Nodup := by rw [hs0]; exact hnd.sublist (List.filter_sublist.map _)
    have hwf0 : WfL s0.2 := by rw [hs0]; exact hwf.sub List.filter_sublist
    have hdfs : dfsP (p.R, p.G) (k + 1) x s = (gwsT p.R p.G x.ring).foldl (dStep (p.R, p.G) k x) s0 := by rw [dfsP_succ, hs0]
    have hpc : pcs s.1 ++ x.cells = pcs s0.1 := by rw [hs0]; simp [pcs]
    have hkk : kvs (s.2.filter fun q => decide (q.1 ≠ x.ring)) = kvs s0.2 := by rw [hs0]
    rw [hpc, ← hs1, hkk]
    repeat'(first|refine kv' ?_|apply jJ|refine jE' ?_|refine jp' ?_|(apply jc;kernel_rfl)|refine kg' ?_|refine kG' ?_|refine kB' fun _=>?_|refine kA' fun _=>?_|refine kK' fun _=>?_|refine kU' ?_|((first|refine kR' ?_ ?_|refine kQ' ?_ ?_);all_goals(intro hc;try simp only[hcs]at hc;try(exfalso;first|contradiction|omega))))
    apply LR.call
    · exact rfl
    intro w1 h1
    refine CallsTo.mono (show CallsTo Try.prog 20 [p.val A, .int .i64 x.ring] w1 _ from m20 p A x.ring w1 ⟨h1.rd_of memZ, h1.rd_of memZ⟩ hi) ?_
    rintro v w2 ⟨a4, c4, rfl, hn⟩
    refine LR.back (h1.newSl hn) ?_
    clear hn h1
    repeat'(first|refine kv' ?_|apply jJ|refine jE' ?_|refine jp' ?_|(apply jc;kernel_rfl)|refine kg' ?_|refine kG' ?_|refine kB' fun _=>?_|refine kA' fun _=>?_|refine kK' fun _=>?_|refine kU' ?_|((first|refine kR' ?_ ?_|refine kQ' ?_ ?_);all_goals(intro hc;try simp only[hcs]at hc;try(exfalso;first|contradiction|omega))))
    have hns8 := gwsTo_len p.R p.G x.ring 8
    obtain ⟨ns, hns⟩ : ∃ ns, ns = gwsT p.R p.G x.ring := ⟨_, rfl⟩
    have hnsl : ns.length ≤ 8 := by rw [hns]; exact hns8
    rw [← hns] at hdfs ⊢
    apply CW.loop [7, 8, 9, 10, 11, 24, 25, 26, 27, 28, 29, 30, 31, 32, 33, 34, 35, 36, 37, 38, 39, 40, 41, 42, 43, 44, 45, 46, 47, 48, 49, 50, 51, 52, 53, 54, 55, 56, 57, 58] (fun s : GSt => (s.i ≤ ns.length ∧ s.s = (ns.take s.i).foldl (dStep (p.R, p.G) k x) s0) ∧ (s.s.2.map Prod.fst).Nodup ∧ WfL s.s.2 ∧ s.s.2.length ≤ s0.2.length ∧ s.s.1.length + s.s.2.length ≤ s0.1.length + s0.2.length) (fun s => [(24, .int .i64 (s.i : Int))])
      (fun s => St w F [oC bo s.a s.s.1.length s.c, pN s.a s.s.1.length s.c s.s.1, lC bl bm, kM91 bm s.s.2, ilK a4 c4 ns, .own bx (.cells x.cells.toArray 44 (0, 0)), rdA (some ⟨bf, 0, none⟩) [Value.func (.func 55) #[] #[.pointer (some ⟨bo, 0, none⟩), .pointer (some ⟨bl, 0, none⟩), .pointer (some ⟨bp, 0, none⟩), .pointer (some ⟨bf, 0, none⟩)]], rdA (some ⟨bp, 0, none⟩) (p.cells A), rdA A.ga (gv p.G), rdA A.ra (iv p.R)]) (fun s => ns.length - s.i)
    · intro w' hw'
      refine ⟨⟨0, a3, c3, s0⟩, ⟨⟨by simp, rfl⟩, hnd0, hwf0, Nat.le_refl _, Nat.le_refl _⟩, ⟨rfl, trivial⟩, ?_⟩
      have h2 : St w F [ilK a4 c4 ns, .own bx (.cells x.cells.toArray 44 (0, 0)), oC bo a3 s0.1.length c3, pN a3 s0.1.length c3 s0.1, lC bl bm, kM91 bm s0.2, rdA (some ⟨bf, 0, none⟩) [Value.func (.func 55) #[] #[.pointer (some ⟨bo, 0, none⟩), .pointer (some ⟨bl, 0, none⟩), .pointer (some ⟨bp, 0, none⟩), .pointer (some ⟨bf, 0, none⟩)]], rdA (some ⟨bp, 0, none⟩) (p.cells A), rdA A.ga (gv p.G), rdA A.ra (iv p.R)] w' := hw'.sub subZ
      have h3 : St w F [.own bx (.cells x.cells.toArray 44 (0, 0)), oC bo a3 s0.1.length c3, pN a3 s0.1.length c3 s0.1, lC bl bm, kM91 bm s0.2, ilK a4 c4 ns, rdA (some ⟨bf, 0, none⟩) [Value.func (.func 55) #[] #[.pointer (some ⟨bo, 0, none⟩), .pointer (some ⟨bl, 0, none⟩), .pointer (some ⟨bp, 0, none⟩), .pointer (some ⟨bf, 0, none⟩)]], rdA (some ⟨bp, 0, none⟩) (p.cells A), rdA A.ga (gv p.G), rdA A.ra (iv p.R)] w' := h2.perm (by
        refine (List.Perm.swap _ _ _).trans ((List.Perm.cons _ ?_))
        exact (List.perm_middle (l₁ := [oC bo a3 s0.1.length c3, pN a3 s0.1.length c3 s0.1, lC bl bm, kM91 bm s0.2])).symm)
      exact h3.perm (List.perm_middle (l₁ := [oC bo a3 s0.1.length c3, pN a3 s0.1.length c3 s0.1, lC bl bm, kM91 bm s0.2, ilK a4 c4 ns])).symm
    rintro ⟨i, a5, c5, s1⟩ g1 ⟨⟨hil, hs⟩, hnd1, hwf1, hle1, hle2⟩
    simp only at hil hs hnd1 hwf1 hle1 hle2 ⊢
    by_cases hlt2 : i < ns.length
    · refine CW_fact (φ := ∃ ba oa, a4 = some ⟨ba, oa, none⟩) (fun w1 hw1 => (ownsRow_rd (hw1.holds (ilK a4 c4 ns) memZ)).form (fun e => by have h1 := congrArg List.length e; simp only [iv_length, List.length_nil] at h1; omega)) ?_
      rintro ⟨ba, oa, rfl⟩
      have htk : (ns.take (i + 1)).foldl (dStep (p.R, p.G) k x) s0 = dStep (p.R, p.G) k x s1 ns[i] := by
        rw [List.take_add_one, List.getElem?_eq_getElem hlt2, List.foldl_append, ← hs]; rfl
      obtain ⟨n, hn⟩ : ∃ n, ns[i] = n := ⟨_, rfl⟩
      rw [hn] at htk
      have hds : dStep (p.R, p.G) k x s1 n = match assoc s1.2 (farD (p.R, p.G) n x.ring) with | some y => if hasC x.members n && hasC y.members n then dfsP (p.R, p.G) k y s1 else s1 | none => s1 := rfl
      obtain ⟨fr, hfr⟩ : ∃ fr, fr = farD (p.R, p.G) n x.ring := ⟨_, rfl⟩
      rw [← hfr] at hds
      cases has : assoc s1.2 fr with
      | none =>
        rw [has] at hds
        repeat'(first|(refine kA' fun b10 => ?_)|refine kv' ?_|apply jJ|refine jE' ?_|refine jp' ?_|(apply jc;kernel_rfl)|refine kg' ?_|refine kG' ?_|refine kB' fun _=>?_|refine kA' fun _=>?_|refine kK' fun _=>?_|refine kU' ?_|(apply idxX;(iterate 2 exact rfl);(iterate 2(first|omega|(dsimp only;omega)));exact rfl)|(apply addX;(iterate 2 exact rfl);(iterate 2(first|omega|(dsimp only;omega)));exact rfl)|(apply LR.ev; (· apply Ev.load_osl; (· exact rfl); (· repeat (first | exact mH _ _ | apply mT)); (· exact (iv_at (l := ns) (i := i) (by simp) (by omega)).trans (by rw [hn]))); (· exact rfl))|(apply kq; (· exact rfl); (· intro w1 h1; first | (have hq := CallsTo.q (m15 p A n x.ring w1 ⟨h1.rd_of memZ, h1.rd_of memZ⟩ hi) h1; exact hq) | fail))|(apply LR.ev; (· apply Ev.lookup_no (enc := intK IntKind.i64) (ok := okK) (l := kvs s1.2) (a := farD (p.R, p.G) n x.ring); (· exact rfl); (· exact rfl); (· exact fun w' hw' => hw'.holds (kM91 bm s1.2) memZ); (· exact fun _ _ => trivial); (· trivial); (· rw [← hfr]; exact assoc_no has)); (· exact rfl))|((first|refine kR' ?_ ?_|refine kQ' ?_ ?_);all_goals(intro hc;try simp only[hcs]at hc;try(exfalso;first|contradiction|omega))))
        refine At.again (⟨i + 1, a5, c5, s1⟩ : GSt) ⟨⟨by simp only; omega, by simp only; rw [htk, hds]⟩, hnd1, hwf1, hle1, hle2⟩ ?_ ⟨rfl, trivial⟩ (fun w' hw' => hw'.sub subZ) (by simp only; omega)
        (repeat (first | exact Out.refl _ _ | exact Out.mix | (apply Out.upd; (· exact rfl)) | (apply Out.updL; (· exact rfl)) | (apply Out.mixs; (· exact rfl))))
      | some y =>
        rw [has] at hds
        have hds : dStep (p.R, p.G) k x s1 n = if hasC x.members n && hasC y.members n then dfsP (p.R, p.G) k y s1 else s1 := hds
        have hyr : y.ring = fr := hwf1.get has
        have hyv : y.val = .agg y.cells.toArray := rfl
        cases hx1 : hasC x.members n with
        | false =>
          rw [hx1] at hds
          simp only [Bool.false_and, Bool.false_eq_true, if_false] at hds
          repeat'(first|(refine kA' fun b10 => ?_)|refine kv' ?_|apply jJ|refine jE' ?_|refine jp' ?_|(apply jc;kernel_rfl)|refine kg' ?_|refine kG' ?_|refine kB' fun _=>?_|refine kA' fun _=>?_|refine kK' fun _=>?_|refine kU' ?_|(apply idxX;(iterate 2 exact rfl);(iterate 2(first|omega|(dsimp only;omega)));exact rfl)|(apply addX;(iterate 2 exact rfl);(iterate 2(first|omega|(dsimp only;omega)));exact rfl)|(apply LR.ev; (· apply Ev.load_osl; (· exact rfl); (· repeat (first | exact mH _ _ | apply mT)); (· exact (iv_at (l := ns) (i := i) (by simp) (by omega)).trans (by rw [hn]))); (· exact rfl))|(apply kq; (· exact rfl); (· intro w1 h1; first | (have hq := CallsTo.q (m15 p A n x.ring w1 ⟨h1.rd_of memZ, h1.rd_of memZ⟩ hi) h1; exact hq) | (have hq := CallsTo.q (q23 x.members n w1) h1; rw [hx1] at hq; exact hq)))|(apply LR.ev; (· apply Ev.lookup_yes (enc := intK IntKind.i64) (ok := okK) (l := kvs s1.2) (a := farD (p.R, p.G) n x.ring) (u := y.val); (· exact rfl); (· exact rfl); (· exact fun w' hw' => hw'.holds (kM91 bm s1.2) memZ); (· exact fun _ _ => trivial); (· rw [kvs_fst]; exact hnd1); (· rw [← hfr]; exact assoc_mem has)); (· exact rfl))|((first|refine kR' ?_ ?_|refine kQ' ?_ ?_);all_goals(intro hc;try simp only[hcs]at hc;try(exfalso;first|contradiction|omega))))
          refine At.again (⟨i + 1, a5, c5, s1⟩ : GSt) ⟨⟨by simp only; omega, by simp only; rw [htk, hds]⟩, hnd1, hwf1, hle1, hle2⟩ ?_ ⟨rfl, trivial⟩ (fun w' hw' => hw'.sub subZ) (by simp only; omega)
          (repeat (first | exact Out.refl _ _ | exact Out.mix | (apply Out.upd; (· exact rfl)) | (apply Out.updL; (· exact rfl)) | (apply Out.mixs; (· exact rfl))))
        | true =>
          cases hy1 : hasC y.members n with
          | false =>
            rw [hx1, hy1] at hds
            simp only [Bool.and_false, Bool.false_eq_true, if_false] at hds
            repeat'(first|(refine kA' fun b10 => ?_)|refine kv' ?_|apply jJ|refine jE' ?_|refine jp' ?_|(apply jc;kernel_rfl)|refine kg' ?_|refine kG' ?_|refine kB' fun _=>?_|refine kA' fun _=>?_|refine kK' fun _=>?_|refine kU' ?_|(apply idxX;(iterate 2 exact rfl);(iterate 2(first|omega|(dsimp only;omega)));exact rfl)|(apply addX;(iterate 2 exact rfl);(iterate 2(first|omega|(dsimp only;omega)));exact rfl)|(apply LR.ev; (· apply Ev.load_osl; (· exact rfl); (· repeat (first | exact mH _ _ | apply mT)); (· exact (iv_at (l := ns) (i := i) (by simp) (by omega)).trans (by rw [hn]))); (· exact rfl))|(apply kq; (· exact rfl); (· intro w1 h1; first | (have hq := CallsTo.q (m15 p A n x.ring w1 ⟨h1.rd_of memZ, h1.rd_of memZ⟩ hi) h1; exact hq) | (have hq := CallsTo.q (q23 x.members n w1) h1; rw [hx1] at hq; exact hq) | (have hq := CallsTo.q (q23 y.members n w1) h1; rw [hy1] at hq; exact hq)))|(apply LR.ev; (· apply Ev.lookup_yes (enc := intK IntKind.i64) (ok := okK) (l := kvs s1.2) (a := farD (p.R, p.G) n x.ring) (u := y.val); (· exact rfl); (· exact rfl); (· exact fun w' hw' => hw'.holds (kM91 bm s1.2) memZ); (· exact fun _ _ => trivial); (· rw [kvs_fst]; exact hnd1); (· rw [← hfr]; exact assoc_mem has)); (· exact rfl))|((first|refine kR' ?_ ?_|refine kQ' ?_ ?_);all_goals(intro hc;try simp only[hcs]at hc;try(exfalso;first|contradiction|omega))))
            refine At.again (⟨i + 1, a5, c5, s1⟩ : GSt) ⟨⟨by simp only; omega, by simp only; rw [htk, hds]⟩, hnd1, hwf1, hle1, hle2⟩ ?_ ⟨rfl, trivial⟩ (fun w' hw' => hw'.sub subZ) (by simp only; omega)
            (repeat (first | exact Out.refl _ _ | exact Out.mix | (apply Out.upd; (· exact rfl)) | (apply Out.updL; (· exact rfl)) | (apply Out.mixs; (· exact rfl))))
          | true =>
            rw [hx1, hy1] at hds
            simp only [Bool.and_self, if_true] at hds
            repeat'(first|(refine kA' fun b10 => ?_)|refine kv' ?_|apply jJ|refine jE' ?_|refine jp' ?_|(apply jc;kernel_rfl)|refine kg' ?_|refine kG' ?_|refine kB' fun _=>?_|refine kA' fun _=>?_|refine kK' fun _=>?_|refine kU' ?_|(apply idxX;(iterate 2 exact rfl);(iterate 2(first|omega|(dsimp only;omega)));exact rfl)|(apply addX;(iterate 2 exact rfl);(iterate 2(first|omega|(dsimp only;omega)));exact rfl)|(apply LR.ev; (· apply Ev.load_osl; (· exact rfl); (· repeat (first | exact mH _ _ | apply mT)); (· exact (iv_at (l := ns) (i := i) (by simp) (by omega)).trans (by rw [hn]))); (· exact rfl))|(apply kq; (· exact rfl); (· intro w1 h1; first | (have hq := CallsTo.q (m15 p A n x.ring w1 ⟨h1.rd_of memZ, h1.rd_of memZ⟩ hi) h1; exact hq) | (have hq := CallsTo.q (q23 x.members n w1) h1; rw [hx1] at hq; exact hq) | (have hq := CallsTo.q (q23 y.members n w1) h1; rw [hy1] at hq; exact hq)))|(apply LR.ev; (· apply Ev.lookup_yes (enc := intK IntKind.i64) (ok := okK) (l := kvs s1.2) (a := farD (p.R, p.G) n x.ring) (u := y.val); (· exact rfl); (· exact rfl); (· exact fun w' hw' => hw'.holds (kM91 bm s1.2) memZ); (· exact fun _ _ => trivial); (· rw [kvs_fst]; exact hnd1); (· rw [← hfr]; exact assoc_mem has)); (· exact rfl))|((first|refine kR' ?_ ?_|refine kQ' ?_ ?_);all_goals(intro hc;try simp only[hcs]at hc;try(exfalso;first|contradiction|omega))))
            apply LR.call_val (g := 55) (cap := [.pointer (some ⟨bo, 0, none⟩), .pointer (some ⟨bl, 0, none⟩), .pointer (some ⟨bp, 0, none⟩), .pointer (some ⟨bf, 0, none⟩)])
            · exact rfl
            · exact rfl
            intro w1 h1
            have h2 : St w F (vG bo bl bm a5 c5 s1 :: [.own b10 (.cells [Value.int .i64 y.ring, .int .i64 y.seq, .int .i64 y.rep, .int .i64 y.members].toArray 44 (0, 0)), ilK (some ⟨ba, oa, none⟩) c4 ns, .own bx (.cells x.cells.toArray 44 (0, 0)), rdA (some ⟨bf, 0, none⟩) [Value.func (.func 55) #[] #[.pointer (some ⟨bo, 0, none⟩), .pointer (some ⟨bl, 0, none⟩), .pointer (some ⟨bp, 0, none⟩), .pointer (some ⟨bf, 0, none⟩)]], rdA (some ⟨bp, 0, none⟩) (p.cells A), rdA A.ga (gv p.G), rdA A.ra (iv p.R)]) w1 := vG_shut (h1.perm (List.perm_middle (l₁ := [oC bo a5 s1.1.length c5, pN a5 s1.1.length c5 s1.1, lC bl bm, kM91 bm s1.2])).symm)
            have hap := fun (z : Asrt) (hz : z ∈ [.own b10 (.cells [Value.int .i64 y.ring, .int .i64 y.seq, .int .i64 y.rep, .int .i64 y.members].toArray 44 (0, 0)), ilK (some ⟨ba, oa, none⟩) c4 ns, .own bx (.cells x.cells.toArray 44 (0, 0)), rdA (some ⟨bf, 0, none⟩) [Value.func (.func 55) #[] #[.pointer (some ⟨bo, 0, none⟩), .pointer (some ⟨bl, 0, none⟩), .pointer (some ⟨bp, 0, none⟩), .pointer (some ⟨bf, 0, none⟩)]], rdA (some ⟨bp, 0, none⟩) (p.cells A), rdA A.ga (gv p.G), rdA A.ra (iv p.R)]) => St.apart h2 hz (show (true || z.excl) = true from rfl)
            have hE1 : EnvG w1 p A bo bl bp bf (vG bo bl bm a5 c5 s1).foot := by
              refine ⟨⟨h2.rd_of memZ, h2.rd_of memZ⟩, h2.rd_of memZ, h2.rd_of memZ, ?_, ?_, ?_, ?_⟩
              · exact fun z hz hf => hap (rdA A.ra (iv p.R)) memZ z hf hz
              · exact fun z hz hf => hap (rdA A.ga (gv p.G)) memZ z hf hz
              · exact fun z hz hf => hap (rdA (some ⟨bp, 0, none⟩) (p.cells A)) memZ z hf hz
              · exact fun z hz hf => hap (rdA (some ⟨bf, 0, none⟩) [Value.func (.func 55) #[] #[.pointer (some ⟨bo, 0, none⟩), .pointer (some ⟨bl, 0, none⟩), .pointer (some ⟨bp, 0, none⟩), .pointer (some ⟨bf, 0, none⟩)]]) memZ z hf hz
            have hys : (assoc s1.2 y.ring).isSome = true := by rw [hyr, has]; rfl
            have hdl := dfs_len (p.R, p.G) k y s1 hwf1 hys
            refine CallsTo.mono (show CallsTo Try.prog 55 [y.val, .pointer (some ⟨bo, 0, none⟩), .pointer (some ⟨bl, 0, none⟩), .pointer (some ⟨bp, 0, none⟩), .pointer (some ⟨bf, 0, none⟩)] w1 _ from ih y a5 c5 s1 w1 (h2.holds _ (mH _ _)) hE1 hnd1 hwf1 hys (by omega) (by omega)) ?_
            rintro v w2 ⟨rfl, a6, c6, st⟩
            have h4 := vG_open (h2.did (Sel.head _ _ _) rfl st vG_dep)
            refine LR.back h4 ?_
            clear h4 st h2 hap hE1 h1
            rw [← hds] at hdl ⊢
            obtain ⟨s2, hs2'⟩ : ∃ s2, s2 = dStep (p.R, p.G) k x s1 n := ⟨_, rfl⟩
            rw [← hs2'] at hdl htk ⊢
            repeat'(first|refine kv' ?_|apply jJ|refine jE' ?_|refine jp' ?_|(apply jc;kernel_rfl)|refine kg' ?_|refine kG' ?_|refine kB' fun _=>?_|refine kA' fun _=>?_|refine kK' fun _=>?_|refine kU' ?_|(apply addX;(iterate 2 exact rfl);(iterate 2(first|omega|(dsimp only;omega)));exact rfl)|((first|refine kR' ?_ ?_|refine kQ' ?_ ?_);all_goals(intro hc;try simp only[hcs]at hc;try(exfalso;first|contradiction|omega))))
            refine At.again (⟨i + 1, a6, c6, s2⟩ : GSt) ⟨⟨by simp only; omega, by simp only; rw [htk]⟩, hnd1.sublist (hdl.2.map _), hwf1.sub hdl.2, by simp only; have := hdl.2.length_le; omega, by simp only; omega⟩ ?_ ⟨rfl, trivial⟩ (fun w' hw' => hw'.sub subZ) (by simp only; omega)
            (repeat (first | exact Out.refl _ _ | exact Out.mix | (apply Out.upd; (· exact rfl)) | (apply Out.updL; (· exact rfl)) | (apply Out.mixs; (· exact rfl))))
    · have hie : i = ns.length := by omega
      subst hie
      rw [List.take_length] at hs
      repeat'(first|refine kv' ?_|apply jJ|refine jE' ?_|refine jp' ?_|(apply jc;kernel_rfl)|refine kg' ?_|refine kG' ?_|refine kB' fun _=>?_|refine kA' fun _=>?_|refine kK' fun _=>?_|refine kU' ?_|((first|refine kR' ?_ ?_|refine kQ' ?_ ?_);all_goals(intro hc;try simp only[hcs]at hc;try(exfalso;first|contradiction|omega))))
      apply end0; (· exact rfl); intro w' hS
      refine ⟨rfl, a5, c5, ?_⟩
      rw [hdfs, ← hs]
      subst hF
      exact (vG_shut hS).step rfl
end Go.Proofs.Ytgblmkpfkcibiaa

namespace Go.Proofs.Ytgblmkpfkcibiaa
open Go.Hb
attribute [local irreducible] LR CW At Ev thn blk finK noG again CallsTo DW QL dnext TW DP gpost
set_option maxRecDepth 100000

theorem asc_lenM : ∀ (l : List Int) (a : Int) (n : Nat), l.Pairwise (· < ·) → (∀ x ∈ l, a ≤ x ∧ x < a + n) → l.length ≤ n
  | [], _, _, _, _ => Nat.zero_le _
  | x :: l, a, n, h, hr => by
    rw [List.pairwise_cons] at h
    have hx := hr x List.mem_cons_self
    cases n with
    | zero => omega
    | succ n =>
      have := asc_lenM l (a + 1) n h.2 (fun y hy => by
        have h1 := h.1 y hy
        have h2 := hr y (List.mem_cons_of_mem _ hy)
        omega)
      rw [List.length_cons]
      omega
theorem far_rng {R : List Int} {G : List Gat} {n r b : Int} (h : farT R G n r = some b) : 0 ≤ b ∧ b < R.length := by
  unfold farT at h
  split at h
  · rename_i hc
    have hok := pl_ok hc
    have : ∀ G', (∀ g ∈ G', Fine R g) → farG G' n r = some b → 0 ≤ b ∧ b < R.length := by
      intro G'
      induction G' with
      | nil => intro _ h; cases h
      | cons g t ih =>
        intro hf hg
        have hg' := hf g List.mem_cons_self
        have h1 := hg'.a0
        have h2 := hg'.ab
        have h3 := hg'.bl
        unfold farG at hg
        split at hg
        · cases hg; omega
        · split at hg
          · cases hg; omega
          · exact ih (fun x hx => hf x (List.mem_cons_of_mem _ hx)) hg
    exact this G hok.fine h
  · cases h
theorem rch_rng {p : List Int × List Gat} {K : List Plc} {a b : Int} (ha : 0 ≤ a ∧ a < p.1.length) (h : Rch (stepsR p K) a b) : 0 ≤ b ∧ b < p.1.length := by
  induction h with
  | refl => exact ha
  | step _ hs _ =>
    obtain ⟨x, y, n, _, _, _, h1, _⟩ := stepsR_iff.1 hs
    exact far_rng h1
theorem ViewIs.len {p : List Int × List Gat} {K : List Plc} {fr : Int} {v : List Plc} (h : ViewIs p K fr v) (hf : 0 ≤ fr ∧ fr < p.1.length) : v.length ≤ p.1.length := by
  have := asc_lenM (v.map Plc.ring) 0 p.1.length h.asc (fun x hx => by
    have := rch_rng hf ((h.mem x).1 hx)
    omega)
  simpa using this
abbrev plR (w w' : World) (v : Value) (l : List Plc) : Prop := ∃ a' c', v = .slice a' l.length c' ∧ NewSl w w' (.slice a' l.length c') 44 4 l.length (pcs l)
theorem plR_nil (w : World) {w' : World} (h : Grew w w') : plR w w' (.slice none 0 0) [] := ⟨none, 0, rfl, ((h : St w NoF [] w').nilsl 44 4).toNew (mH _ _)⟩
theorem leftS_wf {l : List (Int × Plc)} {x : Plc} (h : WfL l) : WfL (leftS l x) := by
  unfold leftS
  split
  · exact h
  · intro q hq
    rcases List.mem_append.1 hq with hq | hq
    · exact h q hq
    · rw [List.mem_singleton] at hq; rw [hq]
theorem left_wf : ∀ (L : List Plc) (l : List (Int × Plc)), WfL l → WfL (L.foldl leftS l)
  | [], l, h => h
  | x :: r, l, h => left_wf r _ (leftS_wf h)
theorem leftL_wf (K : List Plc) : WfL (leftL K) := left_wf K [] (fun q hq => by cases hq)
set_option maxHeartbeats 4000000 in
theorem m24 (p : Pln) (A : PlA) (hi : PlI p) (fr : Int) (K : List Plc) (a : Option Addr) (c : Nat) (w : World) (hr : PlR w p A) (hk : Rd w a (pcs K)) (hm : K.length * 32 ≤ 140737488351232) :
    CallsTo Try.prog 24 [p.val A, .int .i64 fr, .slice a K.length c] w fun v w' => plR w w' v (viewP (p.R, p.G) fr K) := by
  refine go_in (n := 64) ((pl_in hr).addRd hk (fun _ _ h => h)) Try.func24 rfl rfl ?_
  rw [show p.val A = .agg [.slice A.ra p.R.length A.rc, .slice A.ga p.G.length A.gc].toArray from rfl]
  unfold viewP
  cases hck : chkP p.R p.G with
  | false =>
    rw [Bool.false_and, if_neg (by simp)]
    repeat'(first|refine kv' ?_|apply jJ|refine jE' ?_|refine jp' ?_|(apply jc;kernel_rfl)|refine kg' ?_|refine kG' ?_|refine kB' fun _=>?_|refine kA' fun _=>?_|refine kK' fun _=>?_|refine kU' ?_|(apply kq; (· exact rfl); (· intro w1 h1; exact (show CallsTo Try.prog 13 [p.val A] w1 _ from m13F hi h1 ⟨h1.rd_of memZ, h1.rd_of memZ⟩ hck)))|((first|refine kR' ?_ ?_|refine kQ' ?_ ?_);all_goals(intro hc;try simp only[hcs]at hc;try(exfalso;first|contradiction|omega))))
    (apply ret1; (· exact rfl); intro w' hS)
    exact plR_nil w hS.toKeep
  | true =>
    by_cases hfr : ¬ (0 ≤ fr ∧ fr < p.R.length)
    · have e : ringG p.R fr = false := by unfold ringG; exact decide_eq_false hfr
      rw [e, Bool.and_false, if_neg (by simp)]
      repeat'(first|refine kv' ?_|apply jJ|refine jE' ?_|refine jp' ?_|(apply jc;kernel_rfl)|refine kg' ?_|refine kG' ?_|refine kB' fun _=>?_|refine kA' fun _=>?_|refine kK' fun _=>?_|refine kU' ?_|(apply kq; (· exact rfl); (· intro w1 h1; exact (show CallsTo Try.prog 13 [p.val A] w1 _ from m13T hi h1 ⟨h1.rd_of memZ, h1.rd_of memZ⟩ hck)))|((first|refine kR' ?_ ?_|refine kQ' ?_ ?_);all_goals(intro hc;try simp only[hcs]at hc;try(exfalso;first|contradiction|omega))))
      all_goals (first
        | (exfalso; omega)
        | ((apply ret1; (· exact rfl); intro w' hS)
           exact plR_nil w hS.toKeep))
    have hfr : 0 ≤ fr ∧ fr < p.R.length := Classical.not_not.1 hfr
    have e : ringG p.R fr = true := by unfold ringG; exact decide_eq_true hfr
    rw [e, Bool.and_true, if_pos rfl]
    clear e
    repeat'(first|(refine kB' fun bp => ?_)|(refine LR.makeMapK (enc := intK IntKind.i64) (ok := okK) rfl fun bm => ?_)|(refine kA' fun bl => ?_)|refine kv' ?_|apply jJ|refine jE' ?_|refine jp' ?_|(apply jc;kernel_rfl)|refine kg' ?_|refine kG' ?_|refine kB' fun _=>?_|refine kA' fun _=>?_|refine kK' fun _=>?_|refine kU' ?_|(apply kq; (· exact rfl); (· intro w1 h1; exact (show CallsTo Try.prog 13 [p.val A] w1 _ from m13T hi h1 ⟨h1.rd_of memZ, h1.rd_of memZ⟩ hck)))|((first|refine kR' ?_ ?_|refine kQ' ?_ ?_);all_goals(intro hc;try simp only[hcs]at hc;try(exfalso;first|contradiction|omega))))
    apply CW.loop [9, 10, 11, 33, 34, 35, 36, 37, 38, 39, 40, 41, 42, 43, 44, 45, 46, 47, 48, 49, 50] (fun s : Nat × List (Int × Plc) => s.1 ≤ K.length ∧ s.2 = (K.take s.1).foldl leftS []) (fun s => [(33, .int .i64 (s.1 : Int))])
      (fun s => St w NoF [lC bl bm, kM91 bm s.2, .own bp (.cells [Value.slice A.ra p.R.length A.rc, .slice A.ga p.G.length A.gc].toArray 25 (0, 0)), rdA a (pcs K), rdA A.ga (gv p.G), rdA A.ra (iv p.R)]) (fun s => K.length - s.1)
    · exact fun w' hw' => ⟨(0, []), ⟨Nat.zero_le _, rfl⟩, ⟨rfl, trivial⟩, hw'⟩
    rintro ⟨i, l⟩ g1 ⟨hil, hl⟩
    simp only at hil hl ⊢
    have hok : LeftOk (K.take i) l := by rw [hl]; exact leftL_ok (K.take i)
    have hnd := hok.nd
    by_cases hlt : i < K.length
    · obtain ⟨x, hx⟩ : ∃ x, K[i] = x := ⟨_, rfl⟩
      have hKi : K[i]? = some x := by rw [List.getElem?_eq_getElem hlt, hx]
      have htk : (K.take (i + 1)).foldl leftS [] = leftS l x := by
        rw [List.take_add_one, hKi, List.foldl_append, ← hl]; rfl
      obtain ⟨ba, oa, rfl⟩ := hk.form (fun e => by have h1 := congrArg List.length e; rw [pcs_length, List.length_nil] at h1; omega)
      have hlf : leftS l x = if l.any (fun q => decide (q.1 = x.ring)) then l else l ++ [(x.ring, x)] := rfl
      cases ha : l.any (fun q => decide (q.1 = x.ring)) with
      | true =>
        rw [ha, if_pos rfl] at hlf
        obtain ⟨y, hy⟩ := any_yes ha
        repeat'(first|refine kv' ?_|apply jJ|refine jE' ?_|refine jp' ?_|(apply jc;kernel_rfl)|refine kg' ?_|refine kG' ?_|refine kB' fun _=>?_|refine kA' fun _=>?_|refine kK' fun _=>?_|refine kU' ?_|(apply idxX;(iterate 2 exact rfl);(iterate 2(first|omega|(dsimp only;omega)));exact rfl)|(apply addX;(iterate 2 exact rfl);(iterate 2(first|omega|(dsimp only;omega)));exact rfl)|(apply LR.ev; (· apply Ev.load_agg_at (cs := [Value.int .i64 x.ring, .int .i64 x.seq, .int .i64 x.rep, .int .i64 x.members]); (· exact rfl); (· exact rfl); (· intro w' hw'; refine pcs_cell (x := x) (hw'.rd_of memZ) hKi ?_; (· simp; done))); (· exact rfl))|(apply LR.ev; (· apply Ev.lookup_yes (enc := intK IntKind.i64) (ok := okK) (l := kvs l) (a := x.ring) (u := y.val); (· exact rfl); (· exact rfl); (· exact fun w' hw' => hw'.holds (kM91 bm l) memZ); (· exact fun _ _ => trivial); (· rw [kvs_fst]; exact hnd); (· exact assoc_mem hy)); (· exact rfl))|((first|refine kR' ?_ ?_|refine kQ' ?_ ?_);all_goals(intro hc;try simp only[hcs]at hc;try(exfalso;first|contradiction|omega))))
        refine At.again (i + 1, l) ⟨by show i + 1 ≤ _; omega, by show l = _; rw [htk, hlf]⟩ ?_ ⟨rfl, trivial⟩ (fun w' hw' => hw'.sub subZ) (by show K.length - (i + 1) < K.length - i; omega)
        (repeat (first | exact Out.refl _ _ | exact Out.mix | (apply Out.upd; (· exact rfl)) | (apply Out.updL; (· exact rfl)) | (apply Out.mixs; (· exact rfl))))
      | false =>
        rw [ha, if_neg (by simp)] at hlf
        repeat'(first|refine kv' ?_|apply jJ|refine jE' ?_|refine jp' ?_|(apply jc;kernel_rfl)|refine kg' ?_|refine kG' ?_|refine kB' fun _=>?_|refine kA' fun _=>?_|refine kK' fun _=>?_|refine kU' ?_|(apply idxX;(iterate 2 exact rfl);(iterate 2(first|omega|(dsimp only;omega)));exact rfl)|(apply addX;(iterate 2 exact rfl);(iterate 2(first|omega|(dsimp only;omega)));exact rfl)|(apply LR.ev; (· apply Ev.load_agg_at (cs := [Value.int .i64 x.ring, .int .i64 x.seq, .int .i64 x.rep, .int .i64 x.members]); (· exact rfl); (· exact rfl); (· intro w' hw'; refine pcs_cell (x := x) (hw'.rd_of memZ) hKi ?_; (· simp; done))); (· exact rfl))|(apply LR.ev; (· apply Ev.lookup_no (enc := intK IntKind.i64) (ok := okK) (l := kvs l) (a := x.ring); (· exact rfl); (· exact rfl); (· exact fun w' hw' => hw'.holds (kM91 bm l) memZ); (· exact fun _ _ => trivial); (· trivial); (· exact assoc_no (any_no ha))); (· exact rfl))|((first|refine kR' ?_ ?_|refine kQ' ?_ ?_);all_goals(intro hc;try simp only[hcs]at hc;try(exfalso;first|contradiction|omega))))
        refine LR.insertK (enc := intK IntKind.i64) (ok := okK) (l := kvs l) (a := x.ring) (v := x.val) rfl rfl rfl selZ (fun _ _ => trivial) trivial (assoc_no (any_no ha)) ?_
        rw [kvs_snoc]
        repeat'(first|refine kv' ?_|apply jJ|refine jE' ?_|refine jp' ?_|(apply jc;kernel_rfl)|refine kg' ?_|refine kG' ?_|refine kB' fun _=>?_|refine kA' fun _=>?_|refine kK' fun _=>?_|refine kU' ?_|(apply addX;(iterate 2 exact rfl);(iterate 2(first|omega|(dsimp only;omega)));exact rfl)|((first|refine kR' ?_ ?_|refine kQ' ?_ ?_);all_goals(intro hc;try simp only[hcs]at hc;try(exfalso;first|contradiction|omega))))
        refine At.again (i + 1, l ++ [(x.ring, x)]) ⟨by show i + 1 ≤ _; omega, by show l ++ [(x.ring, x)] = _; rw [htk, hlf]⟩ ?_ ⟨rfl, trivial⟩ (fun w' hw' => hw'.sub subZ) (by show K.length - (i + 1) < K.length - i; omega)
        (repeat (first | exact Out.refl _ _ | exact Out.mix | (apply Out.upd; (· exact rfl)) | (apply Out.updL; (· exact rfl)) | (apply Out.mixs; (· exact rfl))))
    have hie : i = K.length := by omega
    subst hie
    rw [List.take_length] at hl hok
    have hl : l = leftL K := hl
    cases hpk : plcK K fr with
    | none =>
      repeat'(first|(refine kA' (T := 37) fun bo => ?_)|(refine kA' (T := 93) fun bf => ?_)|(refine kA' (T := 44) fun bx => ?_)|(apply LR.ev (v := Value.func (.func 55) #[] #[.pointer (some ⟨bo, 0, none⟩), .pointer (some ⟨bl, 0, none⟩), .pointer (some ⟨bp, 0, none⟩), .pointer (some ⟨bf, 0, none⟩)]); (· exact Ev.makeFunc (xs := []) (ys := [.tmp 12, .tmp 7, .tmp 3, .tmp 13])); (· exact rfl))|refine kv' ?_|apply jJ|refine jE' ?_|refine jp' ?_|(apply jc;kernel_rfl)|refine kg' ?_|refine kG' ?_|refine kB' fun _=>?_|refine kA' fun _=>?_|refine kK' fun _=>?_|refine kU' ?_|(apply LR.ev; (· apply Ev.lookup_no (enc := intK IntKind.i64) (ok := okK) (l := kvs l) (a := fr); (· exact rfl); (· exact rfl); (· exact fun w' hw' => hw'.holds (kM91 bm l) memZ); (· exact fun _ _ => trivial); (· trivial); (· exact assoc_no (by rw [hok.eq, hpk]))); (· exact rfl))|((first|refine kR' ?_ ?_|refine kQ' ?_ ?_);all_goals(intro hc;try simp only[hcs]at hc;try(exfalso;first|contradiction|omega))))
      apply LR.call
      · exact rfl
      intro w1 h1
      have h2 := h1.nilsl 44 4
      refine CallsTo.mono (show CallsTo Try.prog 56 [.slice none 0 0] w1 _ from sort_few none 0 [] w1 (h2.holds (pN none 0 0 []) (mH _ _)) (by simp)) ?_
      rintro v w2 ⟨rfl, st⟩
      refine LR.back (h2.did (Sel.head _ _ _) rfl st (osl.dep _ _ _ _ _)) ?_
      clear h1 h2 st
      repeat'(first|refine kv' ?_|apply jJ|refine jE' ?_|refine jp' ?_|(apply jc;kernel_rfl)|refine kg' ?_|refine kG' ?_|refine kB' fun _=>?_|refine kA' fun _=>?_|refine kK' fun _=>?_|refine kU' ?_|((first|refine kR' ?_ ?_|refine kQ' ?_ ?_);all_goals(intro hc;try simp only[hcs]at hc;try(exfalso;first|contradiction|omega))))
      (apply ret1; (· exact rfl); intro w' hS)
      exact plR_nil w hS.toKeep
    | some x =>
      repeat'(first|(refine kA' (T := 37) fun bo => ?_)|(refine kA' (T := 93) fun bf => ?_)|(refine kA' (T := 44) fun bx => ?_)|(apply LR.ev (v := Value.func (.func 55) #[] #[.pointer (some ⟨bo, 0, none⟩), .pointer (some ⟨bl, 0, none⟩), .pointer (some ⟨bp, 0, none⟩), .pointer (some ⟨bf, 0, none⟩)]); (· exact Ev.makeFunc (xs := []) (ys := [.tmp 12, .tmp 7, .tmp 3, .tmp 13])); (· exact rfl))|refine kv' ?_|apply jJ|refine jE' ?_|refine jp' ?_|(apply jc;kernel_rfl)|refine kg' ?_|refine kG' ?_|refine kB' fun _=>?_|refine kA' fun _=>?_|refine kK' fun _=>?_|refine kU' ?_|(apply LR.ev; (· apply Ev.lookup_yes (enc := intK IntKind.i64) (ok := okK) (l := kvs l) (a := fr) (u := x.val); (· exact rfl); (· exact rfl); (· exact fun w' hw' => hw'.holds (kM91 bm l) memZ); (· exact fun _ _ => trivial); (· rw [kvs_fst]; exact hnd); (· exact assoc_mem (by rw [hok.eq, hpk]))); (· exact rfl))|((first|refine kR' ?_ ?_|refine kQ' ?_ ?_);all_goals(intro hc;try simp only[hcs]at hc;try(exfalso;first|contradiction|omega))))
      have hxr := plcK_ring hpk
      apply LR.call_val (g := 55) (cap := [.pointer (some ⟨bo, 0, none⟩), .pointer (some ⟨bl, 0, none⟩), .pointer (some ⟨bp, 0, none⟩), .pointer (some ⟨bf, 0, none⟩)])
      · exact rfl
      · exact rfl
      intro w1 h1
      have h2 := h1.nilsl 44 4
      have h3 : St w NoF [kM91 bm l, pN none 0 0 [], .own bx (.cells [Value.int .i64 x.ring, .int .i64 x.seq, .int .i64 x.rep, .int .i64 x.members].toArray 44 (0, 0)), .own bf (.cells [Value.func (.func 55) #[] #[.pointer (some ⟨bo, 0, none⟩), .pointer (some ⟨bl, 0, none⟩), .pointer (some ⟨bp, 0, none⟩), .pointer (some ⟨bf, 0, none⟩)]].toArray 93 (0, 0)), oC bo none 0 0, lC bl bm, .own bp (.cells [Value.slice A.ra p.R.length A.rc, .slice A.ga p.G.length A.gc].toArray 25 (0, 0)), rdA a (pcs K), rdA A.ga (gv p.G), rdA A.ra (iv p.R)] w1 := front h2 5 rfl rfl
      have h4 : St w NoF [lC bl bm, kM91 bm l, pN none 0 0 [], .own bx (.cells [Value.int .i64 x.ring, .int .i64 x.seq, .int .i64 x.rep, .int .i64 x.members].toArray 44 (0, 0)), .own bf (.cells [Value.func (.func 55) #[] #[.pointer (some ⟨bo, 0, none⟩), .pointer (some ⟨bl, 0, none⟩), .pointer (some ⟨bp, 0, none⟩), .pointer (some ⟨bf, 0, none⟩)]].toArray 93 (0, 0)), oC bo none 0 0, .own bp (.cells [Value.slice A.ra p.R.length A.rc, .slice A.ga p.G.length A.gc].toArray 25 (0, 0)), rdA a (pcs K), rdA A.ga (gv p.G), rdA A.ra (iv p.R)] w1 := front h3 5 rfl rfl
      have h5 : St w NoF [pN none 0 0 [], lC bl bm, kM91 bm l, .own bx (.cells [Value.int .i64 x.ring, .int .i64 x.seq, .int .i64 x.rep, .int .i64 x.members].toArray 44 (0, 0)), .own bf (.cells [Value.func (.func 55) #[] #[.pointer (some ⟨bo, 0, none⟩), .pointer (some ⟨bl, 0, none⟩), .pointer (some ⟨bp, 0, none⟩), .pointer (some ⟨bf, 0, none⟩)]].toArray 93 (0, 0)), oC bo none 0 0, .own bp (.cells [Value.slice A.ra p.R.length A.rc, .slice A.ga p.G.length A.gc].toArray 25 (0, 0)), rdA a (pcs K), rdA A.ga (gv p.G), rdA A.ra (iv p.R)] w1 := front h4 2 rfl rfl
      have h5b : St w NoF [oC bo none 0 0, pN none 0 0 [], lC bl bm, kM91 bm l, .own bx (.cells [Value.int .i64 x.ring, .int .i64 x.seq, .int .i64 x.rep, .int .i64 x.members].toArray 44 (0, 0)), .own bf (.cells [Value.func (.func 55) #[] #[.pointer (some ⟨bo, 0, none⟩), .pointer (some ⟨bl, 0, none⟩), .pointer (some ⟨bp, 0, none⟩), .pointer (some ⟨bf, 0, none⟩)]].toArray 93 (0, 0)), .own bp (.cells [Value.slice A.ra p.R.length A.rc, .slice A.ga p.G.length A.gc].toArray 25 (0, 0)), rdA a (pcs K), rdA A.ga (gv p.G), rdA A.ra (iv p.R)] w1 := front h5 5 rfl rfl
      have h6 : St w NoF (vG bo bl bm none 0 ([], l) :: [.own bx (.cells [Value.int .i64 x.ring, .int .i64 x.seq, .int .i64 x.rep, .int .i64 x.members].toArray 44 (0, 0)), .own bf (.cells [Value.func (.func 55) #[] #[.pointer (some ⟨bo, 0, none⟩), .pointer (some ⟨bl, 0, none⟩), .pointer (some ⟨bp, 0, none⟩), .pointer (some ⟨bf, 0, none⟩)]].toArray 93 (0, 0)), .own bp (.cells [Value.slice A.ra p.R.length A.rc, .slice A.ga p.G.length A.gc].toArray 25 (0, 0)), rdA a (pcs K), rdA A.ga (gv p.G), rdA A.ra (iv p.R)]) w1 := vG_shut h5b
      have hap := fun (z : Asrt) (hz : z ∈ [.own bx (.cells [Value.int .i64 x.ring, .int .i64 x.seq, .int .i64 x.rep, .int .i64 x.members].toArray 44 (0, 0)), .own bf (.cells [Value.func (.func 55) #[] #[.pointer (some ⟨bo, 0, none⟩), .pointer (some ⟨bl, 0, none⟩), .pointer (some ⟨bp, 0, none⟩), .pointer (some ⟨bf, 0, none⟩)]].toArray 93 (0, 0)), .own bp (.cells [Value.slice A.ra p.R.length A.rc, .slice A.ga p.G.length A.gc].toArray 25 (0, 0)), rdA a (pcs K), rdA A.ga (gv p.G), rdA A.ra (iv p.R)]) => St.apart h6 hz (show (true || z.excl) = true from rfl)
      have hE1 : EnvG w1 p A bo bl bp bf (vG bo bl bm none 0 ([], l)).foot := by
        refine ⟨⟨h6.rd_of memZ, h6.rd_of memZ⟩, h6.rd_of_blk memZ, h6.rd_of_blk memZ, ?_, ?_, ?_, ?_⟩
        · exact fun z hz hf => hap (rdA A.ra (iv p.R)) memZ z hf hz
        · exact fun z hz hf => hap (rdA A.ga (gv p.G)) memZ z hf hz
        · intro z hz hf
          obtain ⟨_, ad, e, hz'⟩ := hz
          cases e
          exact hap (.own bp (.cells [Value.slice A.ra p.R.length A.rc, .slice A.ga p.G.length A.gc].toArray 25 (0, 0))) memZ z hf hz'
        · intro z hz hf
          obtain ⟨_, ad, e, hz'⟩ := hz
          cases e
          exact hap (.own bf (.cells [Value.func (.func 55) #[] #[.pointer (some ⟨bo, 0, none⟩), .pointer (some ⟨bl, 0, none⟩), .pointer (some ⟨bp, 0, none⟩), .pointer (some ⟨bf, 0, none⟩)]].toArray 93 (0, 0))) memZ z hf hz'
      have hll := leftL_len K
      refine CallsTo.mono (show CallsTo Try.prog 55 [x.val, .pointer (some ⟨bo, 0, none⟩), .pointer (some ⟨bl, 0, none⟩), .pointer (some ⟨bp, 0, none⟩), .pointer (some ⟨bf, 0, none⟩)] w1 _ from m55 p A hi bo bl bm bp bf l.length x none 0 ([], l) w1 (h6.holds _ (mH _ _)) hE1 hnd (by rw [hl]; exact leftL_wf K) (by rw [hok.eq, hxr, hpk]; rfl) (Nat.le_refl _) (by rw [hl]; simp only [List.length_nil]; omega)) ?_
      rintro v w2 ⟨rfl, a6, c6, st⟩
      have h8 := vG_open (h6.did (Sel.head _ _ _) rfl st vG_dep)
      refine LR.back h8 ?_
      clear h8 st hap hE1 h6 h5b h5 h4 h3 h2 h1
      have hvi := view_is (p := (p.R, p.G)) hpk
      have hvl := hvi.len hfr
      have hok2 := pl_ok hck
      rw [← hl] at hvi hvl ⊢
      obtain ⟨s2, hs2⟩ : ∃ s2, s2 = dfsP (p.R, p.G) l.length x ([], l) := ⟨_, rfl⟩
      rw [← hs2] at hvi hvl ⊢
      have hil2 := isP_len s2.1
      have hl4 := hok2.l4
      have hvl : (isP s2.1).length ≤ p.R.length := hvl
      repeat'(first|refine kv' ?_|apply jJ|refine jE' ?_|refine jp' ?_|(apply jc;kernel_rfl)|refine kg' ?_|refine kG' ?_|refine kB' fun _=>?_|refine kA' fun _=>?_|refine kK' fun _=>?_|refine kU' ?_|((first|refine kR' ?_ ?_|refine kQ' ?_ ?_);all_goals(intro hc;try simp only[hcs]at hc;try(exfalso;first|contradiction|omega))))
      apply LR.call
      · exact rfl
      intro w1 h1
      refine CallsTo.mono (show CallsTo Try.prog 56 [.slice a6 s2.1.length c6] w1 _ from sort_few a6 c6 s2.1 w1 (h1.holds (pN a6 s2.1.length c6 s2.1) memZ) (by omega)) ?_
      rintro v w2 ⟨rfl, st⟩
      refine LR.back (h1.did selZ rfl st (osl.dep _ _ _ _ _)) ?_
      clear h1 st
      repeat'(first|refine kv' ?_|apply jJ|refine jE' ?_|refine jp' ?_|(apply jc;kernel_rfl)|refine kg' ?_|refine kG' ?_|refine kB' fun _=>?_|refine kA' fun _=>?_|refine kK' fun _=>?_|refine kU' ?_|((first|refine kR' ?_ ?_|refine kQ' ?_ ?_);all_goals(intro hc;try simp only[hcs]at hc;try(exfalso;first|contradiction|omega))))
      (apply ret1; (· exact rfl); intro w' hS)
      show plR w w' (.slice a6 s2.1.length c6) (isP (dfsP (p.R, p.G) l.length x ([], l)).1)
      rw [← hs2]
      refine ⟨a6, c6, ?_, ?_⟩
      · show Value.slice a6 s2.1.length c6 = Value.slice a6 (isP s2.1).length c6
        rw [hil2]
      · have h9 : pN a6 s2.1.length c6 (isP s2.1) = osl (.slice a6 (isP s2.1).length c6) 44 4 (isP s2.1).length (pcs (isP s2.1)) := by rw [hil2]
        rw [h9] at hS
        exact hS.toNew memZ
end Go.Proofs.Ytgblmkpfkcibiaa

namespace Go.Proofs.Ytgblmkpfkcibiaa
open Go.Hb

def sw1 (st : Int → Int → Bool) (a : Nat) (bs : List Bool) (b : Nat) : List Bool := if bs.getD a false && st a b then bs.set b true else bs
def rowS (st : Int → Int → Bool) (n : Nat) (bs : List Bool) (a : Nat) : List Bool := (List.range n).foldl (sw1 st a) bs
def swp (st : Int → Int → Bool) (n : Nat) (bs : List Bool) : List Bool := (List.range n).foldl (rowS st n) bs
def itS (st : Int → Int → Bool) (n : Nat) (bs : List Bool) : Nat → List Bool
  | 0 => bs
  | k + 1 => swp st n (itS st n bs k)
structure Le (bs cs : List Bool) : Prop where
  len : cs.length = bs.length
  le : ∀ i, bs.getD i false = true → cs.getD i false = true
theorem Le.refl (bs : List Bool) : Le bs bs := ⟨rfl, fun _ h => h⟩
theorem Le.trans {a b c : List Bool} (h : Le a b) (h2 : Le b c) : Le a c := ⟨h2.len.trans h.len, fun i hi => h2.le i (h.le i hi)⟩
theorem getD_set {bs : List Bool} {b i : Nat} : (bs.set b true).getD i false = (bs.getD i false || (decide (i = b) && decide (b < bs.length))) := by
  rw [List.getD_eq_getElem?_getD, List.getD_eq_getElem?_getD, List.getElem?_set]
  by_cases h : b = i
  · subst h
    by_cases hl : b < bs.length
    · simp [hl]
    · simp [hl, List.getElem?_eq_none (Nat.le_of_not_lt hl)]
  · have h2 : ¬ i = b := fun e => h e.symm
    simp [h, h2]
theorem Le.sw1 (st : Int → Int → Bool) (a b : Nat) (bs : List Bool) : Le bs (Go.Proofs.Ytgblmkpfkcibiaa.sw1 st a bs b) := by
  unfold Go.Proofs.Ytgblmkpfkcibiaa.sw1
  split
  · exact ⟨by simp, fun i h => by rw [getD_set, h]; rfl⟩
  · exact Le.refl _
theorem Le.fold {α : Type} {f : List Bool → α → List Bool} (hf : ∀ bs x, Le bs (f bs x)) : ∀ (l : List α) (bs : List Bool), Le bs (l.foldl f bs)
  | [], bs => Le.refl _
  | x :: r, bs => (hf bs x).trans (Le.fold hf r _)
theorem Le.row (st : Int → Int → Bool) (n a : Nat) (bs : List Bool) : Le bs (rowS st n bs a) := Le.fold (fun bs b => Le.sw1 st a b bs) _ _
theorem Le.swp (st : Int → Int → Bool) (n : Nat) (bs : List Bool) : Le bs (Go.Proofs.Ytgblmkpfkcibiaa.swp st n bs) := Le.fold (fun bs a => Le.row st n a bs) _ _
theorem Le.ext {bs cs : List Bool} (h : Le bs cs) (h2 : Le cs bs) : bs = cs := by
  refine List.ext_getElem h.len.symm fun i h1 h3 => ?_
  have a1 := h.le i
  have a2 := h2.le i
  rw [List.getD_eq_getElem?_getD, List.getD_eq_getElem?_getD, List.getElem?_eq_getElem h1, List.getElem?_eq_getElem h3, Option.getD_some, Option.getD_some] at a1 a2
  cases hx : bs[i] <;> cases hy : cs[i] <;> simp_all
theorem fold_still {α : Type} {f : List Bool → α → List Bool} (hf : ∀ bs x, Le bs (f bs x)) : ∀ (l : List α) (bs : List Bool), l.foldl f bs = bs → ∀ x ∈ l, f bs x = bs
  | [], bs, _, x, hx => by cases hx
  | y :: r, bs, h, x, hx => by
    rw [List.foldl_cons] at h
    have h1 : f bs y = bs := by
      have h2 := Le.fold hf r (f bs y)
      rw [h] at h2
      exact h2.ext (hf bs y)
    rw [h1] at h
    rcases List.mem_cons.1 hx with rfl | hx
    · exact h1
    · exact fold_still hf r bs h x hx
theorem swp_closed {st : Int → Int → Bool} {n : Nat} {bs : List Bool} (hl : bs.length = n) (h : swp st n bs = bs) {a b : Nat} (ha : a < n) (hb : b < n) (h1 : bs.getD a false = true) (h2 : st a b = true) : bs.getD b false = true := by
  have h3 := fold_still (f := rowS st n) (fun bs a => Le.row st n a bs) _ _ h a (List.mem_range.2 ha)
  have h4 := fold_still (f := sw1 st a) (fun bs b => Le.sw1 st a b bs) _ _ h3 b (List.mem_range.2 hb)
  unfold sw1 at h4
  rw [h1, h2, Bool.and_self, if_pos rfl] at h4
  rw [← h4, getD_set]
  simp [hl, hb]
def cntB : List Bool → Nat
  | [] => 0
  | b :: r => (if b then 1 else 0) + cntB r
theorem cntB_le : ∀ (l : List Bool), cntB l ≤ l.length
  | [] => Nat.le_refl _
  | b :: r => by have := cntB_le r; unfold cntB; rw [List.length_cons]; split <;> omega
theorem Le.cnt : ∀ {bs cs : List Bool}, Le bs cs → cntB bs ≤ cntB cs ∧ (cntB bs = cntB cs → bs = cs)
  | [], [], _ => ⟨Nat.le_refl _, fun _ => rfl⟩
  | [], c :: cs, h => by have := h.len; simp at this
  | b :: bs, [], h => by have := h.len; simp at this
  | b :: bs, c :: cs, h => by
    have h0 := h.le 0
    have ht : Le bs cs := ⟨by have := h.len; simpa using this, fun i hi => by
      have := h.le (i + 1)
      simp only [List.getD_cons_succ] at this
      exact this hi⟩
    have ih := ht.cnt
    simp only [List.getD_cons_zero] at h0
    unfold cntB
    cases b <;> cases c <;> simp_all <;> omega
theorem itS_len (st : Int → Int → Bool) (n : Nat) (bs : List Bool) : ∀ k, (itS st n bs k).length = bs.length
  | 0 => rfl
  | k + 1 => by unfold itS; rw [(Le.swp st n _).len, itS_len st n bs k]
theorem itS_grow (st : Int → Int → Bool) (n : Nat) (bs : List Bool) (h1 : 1 ≤ cntB bs) : ∀ k, swp st n (itS st n bs k) = itS st n bs k ∨ k + 1 ≤ cntB (itS st n bs k)
  | 0 => .inr h1
  | k + 1 => by
    rcases itS_grow st n bs h1 k with h | h
    · left
      unfold itS
      rw [h, h]
    · by_cases he : swp st n (itS st n bs k) = itS st n bs k
      · left
        unfold itS
        rw [he, he]
      · right
        have hc := (Le.swp st n (itS st n bs k)).cnt
        have : ¬ cntB (itS st n bs k) = cntB (swp st n (itS st n bs k)) := fun e => he (hc.2 e).symm
        show k + 1 + 1 ≤ cntB (swp st n (itS st n bs k))
        omega
theorem itS_end {st : Int → Int → Bool} {n : Nat} {bs : List Bool} (hl : bs.length = n) (h1 : 1 ≤ cntB bs) : swp st n (itS st n bs n) = itS st n bs n := by
  rcases itS_grow st n bs h1 n with h | h
  · exact h
  · have := cntB_le (itS st n bs n)
    rw [itS_len, hl] at this
    omega
theorem itS_le (st : Int → Int → Bool) (n : Nat) (bs : List Bool) : ∀ k, Le bs (itS st n bs k)
  | 0 => Le.refl _
  | k + 1 => (itS_le st n bs k).trans (Le.swp st n _)
def AllR (st : Int → Int → Bool) (fr : Int) (bs : List Bool) : Prop := ∀ i, bs.getD i false = true → Rch st fr (i : Int)
theorem AllR.sw1 {st : Int → Int → Bool} {fr : Int} {bs : List Bool} (h : AllR st fr bs) (a b : Nat) : AllR st fr (Go.Proofs.Ytgblmkpfkcibiaa.sw1 st a bs b) := by
  unfold Go.Proofs.Ytgblmkpfkcibiaa.sw1
  split
  · rename_i hc
    rw [Bool.and_eq_true] at hc
    intro i hi
    rw [getD_set] at hi
    by_cases hib : i = b
    · subst hib; exact (h a hc.1).step hc.2
    · exact h i (by simpa [hib] using hi)
  · exact h
theorem AllR.fold {st : Int → Int → Bool} {fr : Int} {α : Type} {f : List Bool → α → List Bool} (hf : ∀ bs x, AllR st fr bs → AllR st fr (f bs x)) : ∀ (l : List α) (bs : List Bool), AllR st fr bs → AllR st fr (l.foldl f bs)
  | [], bs, h => h
  | x :: r, bs, h => AllR.fold hf r _ (hf bs x h)
theorem AllR.it {st : Int → Int → Bool} {fr : Int} {n : Nat} {bs : List Bool} (h : AllR st fr bs) : ∀ k, AllR st fr (itS st n bs k)
  | 0 => h
  | k + 1 => AllR.fold (fun bs a h => AllR.fold (fun bs b h => h.sw1 a b) _ _ h) _ _ (h.it k)
def bs0 (n fr : Nat) : List Bool := (List.replicate n false).set fr true
theorem bs0_len (n fr : Nat) : (bs0 n fr).length = n := by simp [bs0]
theorem bs0_get {n fr i : Nat} : (bs0 n fr).getD i false = (decide (i = fr) && decide (fr < n)) := by
  unfold bs0
  rw [getD_set, List.length_replicate]
  have : (List.replicate n false).getD i false = false := by
    rw [List.getD_eq_getElem?_getD, List.getElem?_replicate]
    split <;> rfl
  rw [this, Bool.false_or]
theorem bs0_cnt {n fr : Nat} (h : fr < n) : 1 ≤ cntB (bs0 n fr) := by
  have : ∀ (l : List Bool) (i : Nat), l.getD i false = true → 1 ≤ cntB l := by
    intro l
    induction l with
    | nil => intro i hi; simp at hi
    | cons b r ih =>
      intro i hi
      unfold cntB
      cases i with
      | zero => simp at hi; subst hi; simp
      | succ i => have := ih i (by simpa using hi); omega
  exact this _ fr (by rw [bs0_get]; simp [h])
def finS (p : List Int × List Gat) (K : List Plc) (fr : Nat) : List Bool := itS (stepsR p K) p.1.length (bs0 p.1.length fr) p.1.length
def outR (K : List Plc) (fs : List Bool) : Nat → List Plc
  | 0 => []
  | k + 1 => outR K fs k ++ if fs.getD k false then [(plcK K (k : Int)).getD zP] else []
theorem outR_len (K : List Plc) (fs : List Bool) : ∀ k, (outR K fs k).length ≤ k
  | 0 => Nat.le_refl _
  | k + 1 => by have := outR_len K fs k; unfold outR; rw [List.length_append]; split <;> simp <;> omega
def viewR (p : List Int × List Gat) (fr : Int) (K : List Plc) : List Plc :=
  if chkP p.1 p.2 && (ringG p.1 fr && (plcK K fr).isSome) then outR K (finS p K fr.toNat) p.1.length else []
theorem outR_mem {K : List Plc} {fs : List Bool} (hp : ∀ i, fs.getD i false = true → (plcK K (i : Int)).isSome = true) : ∀ k, (∀ y ∈ outR K fs k, plcK K y.ring = some y ∧ y.ring < k) ∧ ((outR K fs k).map Plc.ring).Pairwise (· < ·) ∧ ∀ r, r ∈ (outR K fs k).map Plc.ring ↔ ∃ i : Nat, i < k ∧ r = (i : Int) ∧ fs.getD i false = true
  | 0 => ⟨fun y hy => (by cases hy), List.Pairwise.nil, fun r => ⟨fun h => (by cases h), fun ⟨i, h, _⟩ => (by omega)⟩⟩
  | k + 1 => by
    obtain ⟨h1, h2, h3⟩ := outR_mem hp k
    unfold outR
    cases hf : fs.getD k false with
    | false =>
      rw [if_neg (by simp), List.append_nil]
      refine ⟨fun y hy => ⟨(h1 y hy).1, by have := (h1 y hy).2; omega⟩, h2, fun r => ?_⟩
      rw [h3]
      constructor
      · rintro ⟨i, hi, hr, hb⟩; exact ⟨i, by omega, hr, hb⟩
      · rintro ⟨i, hi, hr, hb⟩
        by_cases hik : i = k
        · subst hik; rw [hf] at hb; cases hb
        · exact ⟨i, by omega, hr, hb⟩
    | true =>
      rw [if_pos rfl]
      obtain ⟨z, hz⟩ := Option.isSome_iff_exists.1 (hp k hf)
      have hzr := plcK_ring hz
      rw [hz]
      refine ⟨fun y hy => ?_, ?_, fun r => ?_⟩
      · rcases List.mem_append.1 hy with hy | hy
        · exact ⟨(h1 y hy).1, by have := (h1 y hy).2; omega⟩
        · have hy : y = z := by simpa using hy
          rw [hy, hzr]
          exact ⟨hz, by omega⟩
      · rw [List.map_append, List.pairwise_append]
        refine ⟨h2, by simp, fun a ha b hb => ?_⟩
        obtain ⟨y, hy, rfl⟩ := List.mem_map.1 ha
        simp only [Option.getD_some, List.map_cons, List.map_nil, List.mem_singleton] at hb
        have := (h1 y hy).2
        omega
      · rw [List.map_append, List.mem_append, h3]
        simp only [Option.getD_some, List.map_cons, List.map_nil, List.mem_singleton]
        rw [hzr]
        constructor
        · rintro (⟨i, hi, hr, hb⟩ | hr)
          · exact ⟨i, by omega, hr, hb⟩
          · exact ⟨k, by omega, hr, hf⟩
        · rintro ⟨i, hi, hr, hb⟩
          by_cases hik : i = k
          · subst hik; exact .inr hr
          · exact .inl ⟨i, by omega, hr, hb⟩
theorem far_rng' {R : List Int} {G : List Gat} {n r b : Int} (h : farT R G n r = some b) : 0 ≤ b ∧ b < R.length := by
  unfold farT at h
  split at h
  · rename_i hc
    have hok := pl_ok hc
    have : ∀ G', (∀ g ∈ G', Fine R g) → farG G' n r = some b → 0 ≤ b ∧ b < R.length := by
      intro G'
      induction G' with
      | nil => intro _ h; cases h
      | cons g t ih =>
        intro hf hg
        have hg' := hf g List.mem_cons_self
        have h1 := hg'.a0
        have h2 := hg'.ab
        have h3 := hg'.bl
        unfold farG at hg
        split at hg
        · cases hg; omega
        · split at hg
          · cases hg; omega
          · exact ih (fun x hx => hf x (List.mem_cons_of_mem _ hx)) hg
    exact this G hok.fine h
  · cases h
theorem rch_known {p : List Int × List Gat} {K : List Plc} {a b : Int} (ha : (plcK K a).isSome = true) (hr : 0 ≤ a ∧ a < p.1.length) (h : Rch (stepsR p K) a b) : (plcK K b).isSome = true ∧ 0 ≤ b ∧ b < p.1.length := by
  induction h with
  | refl => exact ⟨ha, hr⟩
  | step _ hs _ =>
    obtain ⟨x, y, n, _, h2, _, h1, _⟩ := stepsR_iff.1 hs
    exact ⟨by rw [h2]; rfl, far_rng' h1⟩
theorem viewR_is {p : List Int × List Gat} {K : List Plc} {fr : Nat} (hf : fr < p.1.length) (hk : (plcK K (fr : Int)).isSome = true) : ViewIs p K fr (outR K (finS p K fr) p.1.length) := by
  have hall : AllR (stepsR p K) fr (finS p K fr) := by
    refine AllR.it (fun i hi => ?_) _
    rw [bs0_get, Bool.and_eq_true, decide_eq_true_eq] at hi
    rw [hi.1]
    exact Rch.refl
  have hend := itS_end (st := stepsR p K) (bs0_len p.1.length fr) (bs0_cnt hf)
  have hlen : (finS p K fr).length = p.1.length := by unfold finS; rw [itS_len, bs0_len]
  have h0 : (finS p K fr).getD fr false = true := by
    refine (itS_le _ _ _ _).le fr ?_
    rw [bs0_get]; simp [hf]
  have hp : ∀ i, (finS p K fr).getD i false = true → (plcK K (i : Int)).isSome = true := fun i hi => (rch_known hk (by omega) (hall i hi)).1
  obtain ⟨h1, h2, h3⟩ := outR_mem hp p.1.length
  refine ⟨fun y hy => (h1 y hy).1, h2, fun r => ?_⟩
  rw [h3]
  constructor
  · rintro ⟨i, _, rfl, hb⟩; exact hall i hb
  · intro hr
    have key : ∀ r, Rch (stepsR p K) fr r → ∃ i : Nat, i < p.1.length ∧ r = (i : Int) ∧ (finS p K fr).getD i false = true := by
      intro r hr
      induction hr with
      | refl => exact ⟨fr, hf, rfl, h0⟩
      | @step b cc h hs ih =>
        obtain ⟨i, hi, rfl, hb⟩ := ih
        obtain ⟨x, y, n, _, _, _, hfa, _⟩ := stepsR_iff.1 hs
        have hrg := far_rng' hfa
        obtain ⟨j, rfl⟩ : ∃ j : Nat, cc = (j : Int) := ⟨cc.toNat, by omega⟩
        exact ⟨j, by omega, rfl, swp_closed hlen hend hi (by omega) hb hs⟩
    exact key r hr
theorem view_same (p : List Int × List Gat) (fr : Int) (K : List Plc) : viewP p fr K = viewR p fr K := by
  unfold viewP viewR
  cases hc : chkP p.1 p.2 with
  | false => rfl
  | true =>
    cases hr : ringG p.1 fr with
    | false => rfl
    | true =>
      cases hk : plcK K fr with
      | none => rfl
      | some x =>
        show isP (dfsP p (leftL K).length x ([], leftL K)).1 = outR K (finS p K fr.toNat) p.1.length
        unfold ringG at hr
        rw [decide_eq_true_eq] at hr
        obtain ⟨f, rfl⟩ : ∃ f : Nat, fr = (f : Int) := ⟨fr.toNat, by omega⟩
        rw [Int.toNat_natCast]
        exact (view_is hk).uniq (viewR_is (by omega) (by rw [hk]; rfl))
end Go.Proofs.Ytgblmkpfkcibiaa

namespace Go.Proofs.Ytgblmkpfkcibiaa
open Go.Hb
attribute [local irreducible] LR CW At Ev thn blk finK noG again CallsTo DW QL dnext TW DP gpost
set_option maxRecDepth 100000

theorem pcs_one {w : World} {b o : Nat} {K : List Plc} {j : Nat} {y : Plc} (h : Rd w (some ⟨b, o, none⟩) (pcs K)) (hj : K[j]? = some y) (k : Nat) {v : Value} (hv : (Plc.cells y)[k]? = some v) {q : Nat} (hq : q = o + (j : Int).toNat * 4 + k) : w.cell? ⟨b, q, none⟩ = some v := by
  have := pcs_cell h hj (q := o + j * 4) rfl k v hv
  rw [addr_add] at this
  rwa [hq, Int.toNat_natCast]
theorem plcK_drop (K : List Plc) (r : Int) {i : Nat} (h : i < K.length) : plcK (K.drop i) r = if (K[i]'h).ring = r then some (K[i]'h) else plcK (K.drop (i + 1)) r := by
  unfold plcK
  rw [List.drop_eq_getElem_cons h, List.find?_cons]
  by_cases hx : (K[i]'h).ring = r
  · rw [if_pos hx, decide_eq_true hx]
  · rw [if_neg hx, decide_eq_false hx]
theorem pcs_snoc (O : List Plc) (z : Plc) : pcs (O ++ [z]) = pcs O ++ z.cells := by simp [pcs]
theorem pN_snoc {a : Option Addr} {c : Nat} {O : List Plc} {z : Plc} : pN a (O ++ [z]).length c (O ++ [z]) = osl (.slice a (O.length + 1) c) 44 4 (O.length + 1) (pcs O ++ z.cells) := by
  have h1 : (O ++ [z]).length = O.length + 1 := by simp
  show osl _ _ _ _ (pcs (O ++ [z])) = _
  rw [h1, pcs_snoc]
def plcV (o : Option Plc) : Value := .tuple [(o.getD zP).val, .bool o.isSome].toArray
set_option maxHeartbeats 1000000 in
theorem m57 (K : List Plc) (a : Option Addr) (c : Nat) (r : Int) (w : World) (hk : Rd w a (pcs K)) (hm : K.length * 32 ≤ 140737488351232) : CallsTo Try.prog 57 [.slice a K.length c, .int .i64 r] w fun v w' => v = plcV (plcK K r) ∧ Grew w w' := by
  refine go_in (n := 25) (St.rd1 hk) Try.func57 rfl rfl ?_
  repeat'(first|(refine kA' fun b4 => ?_)|refine kv' ?_|apply jJ|refine jE' ?_|refine jp' ?_|(apply jc;kernel_rfl)|refine kg' ?_|refine kG' ?_|refine kB' fun _=>?_|refine kA' fun _=>?_|refine kK' fun _=>?_|refine kU' ?_|((first|refine kR' ?_ ?_|refine kQ' ?_ ?_);all_goals(intro hc;try simp only[hcs]at hc;try(exfalso;first|contradiction|omega))))
  apply CW.loop [5, 6, 7, 8, 9, 10, 11, 12, 13, 14, 15, 16, 17, 18, 19, 20, 21, 22, 23] (fun i : Nat => i ≤ K.length ∧ plcK K r = plcK (K.drop i) r) (fun i => [(6, .int .i64 (i : Int))])
    (fun _ => St w NoF [.own b4 (.cells [Value.int .i64 0, .int .i64 0, .int .i64 0, .int .i64 0].toArray 44 (0, 0)), rdA a (pcs K)]) (fun i => K.length - i)
  · exact fun w' hw' => ⟨0, ⟨by omega, rfl⟩, ⟨rfl, trivial⟩, hw'⟩
  rintro i g ⟨hi, he⟩
  rw [he]
  by_cases hlt : i < K.length
  · rw [plcK_drop K r hlt] at he ⊢
    obtain ⟨ba, oa, rfl⟩ := hk.form (fun e => by have h1 := congrArg List.length e; rw [pcs_length, List.length_nil] at h1; omega)
    obtain ⟨x, hx⟩ : ∃ x, K[i] = x := ⟨_, rfl⟩
    have hKi : K[i]? = some x := by rw [List.getElem?_eq_getElem hlt, hx]
    rw [hx] at he ⊢
    repeat'(first|refine kv' ?_|apply jJ|refine jE' ?_|refine jp' ?_|(apply jc;kernel_rfl)|refine kg' ?_|refine kG' ?_|refine kB' fun _=>?_|refine kA' fun _=>?_|refine kK' fun _=>?_|refine kU' ?_|(apply idxX;(iterate 2 exact rfl);(iterate 2(first|omega|(dsimp only;omega)));exact rfl)|(apply addX;(iterate 2 exact rfl);(iterate 2(first|omega|(dsimp only;omega)));exact rfl)|(apply LR.ev; (· apply Ev.load_agg_at (cs := [Value.int .i64 x.ring, .int .i64 x.seq, .int .i64 x.rep, .int .i64 x.members]); (· exact rfl); (· exact rfl); (· intro w' hw'; refine pcs_cell (x := x) (hw'.rd_of memZ) hKi ?_; (· simp; done))); (· exact rfl))|(apply LR.ev; (· apply Ev.load (v := .int .i64 x.ring); (· exact rfl); (· intro w' hw'; refine pcs_one (hw'.rd_of memZ) hKi 0 rfl ?_; (· simp; done))); (· exact rfl))|((first|refine kR' ?_ ?_|refine kQ' ?_ ?_);all_goals(intro hc;try simp only[hcs]at hc;try(exfalso;first|contradiction|omega))))
    · have hxr : x.ring = r := by assumption
      rw [if_pos hxr]
      (apply ret2c; (· exact rfl); (· exact inferInstance); (· exact rfl); (· (repeat (first | exact List.Mem.head _ | apply List.Mem.tail))); (· exact rfl); intro w' hS)
      exact ⟨rfl, hS.toKeep⟩
    · have hxr : ¬ x.ring = r := by assumption
      refine At.again (i + 1) ⟨by omega, by rw [if_neg hxr]⟩ ?_ ⟨rfl, trivial⟩ (fun w' hw' => hw') (by omega)
      (repeat (first | exact Out.refl _ _ | exact Out.mix | (apply Out.upd; (· exact rfl)) | (apply Out.updL; (· exact rfl)) | (apply Out.mixs; (· exact rfl))))
  · have hie : i = K.length := by omega
    subst hie
    rw [List.drop_length]
    repeat'(first|refine kv' ?_|apply jJ|refine jE' ?_|refine jp' ?_|(apply jc;kernel_rfl)|refine kg' ?_|refine kG' ?_|refine kB' fun _=>?_|refine kA' fun _=>?_|refine kK' fun _=>?_|refine kU' ?_|((first|refine kR' ?_ ?_|refine kQ' ?_ ?_);all_goals(intro hc;try simp only[hcs]at hc;try(exfalso;first|contradiction|omega))))
    (apply ret2c; (· exact rfl); (· exact inferInstance); (· exact rfl); (· (repeat (first | exact List.Mem.head _ | apply List.Mem.tail))); (· exact rfl); intro w' hS)
    exact ⟨rfl, hS.toKeep⟩
def stOne (p : List Int × List Gat) (a b : Int) (x y : Plc) (n : Int) : Bool := decide (farT p.1 p.2 n a = some b) && (hasC x.members n && hasC y.members n)
theorem stepsR_some {p : List Int × List Gat} {K : List Plc} {a b : Int} {x y : Plc} (hx : plcK K a = some x) (hy : plcK K b = some y) : stepsR p K a b = (List.range 8).any fun i => stOne p a b x y ((i + 1 : Nat) : Int) := by
  unfold stepsR; rw [hx, hy]; rfl
theorem any_range_succ (f : Nat → Bool) (k : Nat) : (List.range (k + 1)).any f = ((List.range k).any f || f k) := by rw [List.range_succ, List.any_append]; simp
set_option maxHeartbeats 2000000 in
theorem m59 (p : Pln) (A : PlA) (hi : PlI p) (K : List Plc) (a : Option Addr) (c : Nat) (ra rb : Int) (w : World) (hr : PlR w p A) (hk : Rd w a (pcs K)) (hm : K.length * 32 ≤ 140737488351232) :
    CallsTo Try.prog 59 [p.val A, .slice a K.length c, .int .i64 ra, .int .i64 rb] w fun v w' => v = .bool (stepsR (p.R, p.G) K ra rb) ∧ Grew w w' := by
  refine go_in (n := 63) ((pl_in hr).addRd hk (fun _ _ h => h)) Try.func59 rfl rfl ?_
  rw [show p.val A = .agg [.slice A.ra p.R.length A.rc, .slice A.ga p.G.length A.gc].toArray from rfl]
  cases hx : plcK K ra with
  | none =>
    have e : stepsR (p.R, p.G) K ra rb = false := by unfold stepsR; rw [hx]
    rw [e]
    repeat'(first|refine kv' ?_|apply jJ|refine jE' ?_|refine jp' ?_|(apply jc;kernel_rfl)|refine kg' ?_|refine kG' ?_|refine kB' fun _=>?_|refine kA' fun _=>?_|refine kK' fun _=>?_|refine kU' ?_|(apply kq; (· exact rfl); (· intro w1 h1; first | (have hq := CallsTo.q (m57 K a c ra w1 (h1.rd_of memZ) hm) h1; rw [hx] at hq; exact hq) | exact CallsTo.q (m57 K a c rb w1 (h1.rd_of memZ) hm) h1))|((first|refine kR' ?_ ?_|refine kQ' ?_ ?_);all_goals(intro hc;try simp only[hcs]at hc;try(exfalso;first|contradiction|omega))))
    (apply ret1; (· exact rfl); intro w' hS)
    exact ⟨rfl, hS.toKeep⟩
  | some x =>
    cases hy : plcK K rb with
    | none =>
      have e : stepsR (p.R, p.G) K ra rb = false := by unfold stepsR; rw [hx, hy]
      rw [e]
      repeat'(first|refine kv' ?_|apply jJ|refine jE' ?_|refine jp' ?_|(apply jc;kernel_rfl)|refine kg' ?_|refine kG' ?_|refine kB' fun _=>?_|refine kA' fun _=>?_|refine kK' fun _=>?_|refine kU' ?_|(apply kq; (· exact rfl); (· intro w1 h1; first | (have hq := CallsTo.q (m57 K a c ra w1 (h1.rd_of memZ) hm) h1; rw [hx] at hq; exact hq) | (have hq := CallsTo.q (m57 K a c rb w1 (h1.rd_of memZ) hm) h1; rw [hy] at hq; exact hq)))|((first|refine kR' ?_ ?_|refine kQ' ?_ ?_);all_goals(intro hc;try simp only[hcs]at hc;try(exfalso;first|contradiction|omega))))
      (apply ret1; (· exact rfl); intro w' hS)
      exact ⟨rfl, hS.toKeep⟩
    | some y =>
      rw [stepsR_some hx hy]
      have hxv : ((some x).getD zP) = x := rfl
      have hyv : ((some y).getD zP) = y := rfl
      repeat'(first|(refine kB' fun b1 => ?_)|(refine kA' fun bq => ?_)|refine kv' ?_|apply jJ|refine jE' ?_|refine jp' ?_|(apply jc;kernel_rfl)|refine kg' ?_|refine kG' ?_|refine kB' fun _=>?_|refine kA' fun _=>?_|refine kK' fun _=>?_|refine kU' ?_|(apply kq; (· exact rfl); (· intro w1 h1; first | (have hq := CallsTo.q (m57 K a c ra w1 (h1.rd_of memZ) hm) h1; rw [hx] at hq; exact hq) | (have hq := CallsTo.q (m57 K a c rb w1 (h1.rd_of memZ) hm) h1; rw [hy] at hq; exact hq)))|((first|refine kR' ?_ ?_|refine kQ' ?_ ?_);all_goals(intro hc;try simp only[hcs]at hc;try(exfalso;first|contradiction|omega))))
      rename_i bxx
      apply CW.loop [8, 13, 14, 15, 34, 35, 36, 37, 38, 39, 40, 41, 42, 43, 44, 45, 46, 47, 48, 49, 50, 51, 52, 53, 54, 55, 56, 57, 58, 59, 60, 61, 62] (fun i : Nat => i ≤ 8 ∧ ((List.range i).any fun i => stOne (p.R, p.G) ra rb x y ((i + 1 : Nat) : Int)) = false) (fun i => [(13, .int .i64 ((i + 1 : Nat) : Int))])
        (fun _ => St w NoF [.own bq (.cells [Value.int .i64 y.ring, .int .i64 y.seq, .int .i64 y.rep, .int .i64 y.members].toArray 44 (0, 0)), .own bxx (.cells [Value.int .i64 x.ring, .int .i64 x.seq, .int .i64 x.rep, .int .i64 x.members].toArray 44 (0, 0)), .own b1 (.cells [Value.slice A.ra p.R.length A.rc, .slice A.ga p.G.length A.gc].toArray 25 (0, 0)), rdA a (pcs K), rdA A.ga (gv p.G), rdA A.ra (iv p.R)]) (fun i => 8 - i)
      · exact fun w' hw' => ⟨0, ⟨by omega, rfl⟩, ⟨rfl, trivial⟩, hw'⟩
      rintro i g ⟨hi8, hno⟩
      by_cases hlt : i < 8
      · have hsu := any_range_succ (fun i => stOne (p.R, p.G) ra rb x y ((i + 1 : Nat) : Int)) i
        rw [hno, Bool.false_or] at hsu
        obtain ⟨n, hn⟩ : ∃ n : Int, n = ((i + 1 : Nat) : Int) := ⟨_, rfl⟩
        have hyes : stOne (p.R, p.G) ra rb x y n = true → ((List.range 8).any fun i => stOne (p.R, p.G) ra rb x y ((i + 1 : Nat) : Int)) = true := fun h => by
          rw [List.any_eq_true]
          exact ⟨i, List.mem_range.2 hlt, by rw [← hn]; exact h⟩
        have hone : stOne (p.R, p.G) ra rb x y n = (decide (farT p.R p.G n ra = some rb) && (hasC x.members n && hasC y.members n)) := rfl
        rw [← hn]
        have hnb : -1000 ≤ n ∧ n ≤ 1000 := by omega
        have hn8 : n ≤ 8 := by omega
        have hn1 : n + 1 = ((i + 1 + 1 : Nat) : Int) := by omega
        rw [← hn] at hsu
        clear hn
        cases hf : farT p.R p.G n ra with
        | none =>
          rw [hf] at hone
          repeat'(first|refine kv' ?_|apply jJ|refine jE' ?_|refine jp' ?_|(apply jc;kernel_rfl)|refine kg' ?_|refine kG' ?_|refine kB' fun _=>?_|refine kA' fun _=>?_|refine kK' fun _=>?_|refine kU' ?_|(apply addX;(iterate 2 exact rfl);(iterate 2(first|omega|(dsimp only;omega)));exact rfl)|(apply kq; (· exact rfl); (· intro w1 h1; have hq := CallsTo.q (m16 p A n ra w1 ⟨h1.rd_of memZ, h1.rd_of memZ⟩ hi) h1; rw [hf] at hq; exact hq))|((first|refine kR' ?_ ?_|refine kQ' ?_ ?_);all_goals(intro hc;try simp only[hcs]at hc;try(exfalso;first|contradiction|omega))))
          refine At.again (i + 1) ⟨by omega, by rw [hsu, hone]; rfl⟩ ?_ ⟨?_, trivial⟩ (fun w' hw' => hw') (by omega)
          · (repeat (first | exact Out.refl _ _ | exact Out.mix | (apply Out.upd; (· exact rfl)) | (apply Out.updL; (· exact rfl)) | (apply Out.mixs; (· exact rfl))))
          · exact congrArg (Value.int .i64) hn1
        | some b =>
          rw [hf] at hone
          have hbb : decide (some b = some rb) = decide (b = rb) := by simp
          rw [hbb] at hone
          repeat'(first|refine kv' ?_|apply jJ|refine jE' ?_|refine jp' ?_|(apply jc;kernel_rfl)|refine kg' ?_|refine kG' ?_|refine kB' fun _=>?_|refine kA' fun _=>?_|refine kK' fun _=>?_|refine kU' ?_|(apply addX;(iterate 2 exact rfl);(iterate 2(first|omega|(dsimp only;omega)));exact rfl)|(apply kq; (· exact rfl); (· intro w1 h1; first | (have hq := CallsTo.q (m16 p A n ra w1 ⟨h1.rd_of memZ, h1.rd_of memZ⟩ hi) h1; rw [hf] at hq; exact hq) | exact CallsTo.q (q50 x.members n w1) h1 | exact CallsTo.q (q50 y.members n w1) h1))|((first|refine kR' ?_ ?_|refine kQ' ?_ ?_);all_goals(intro hc;try simp only[hcs]at hc;try(exfalso;first|contradiction|omega))))
          all_goals (first
            | ((apply ret1; (· exact rfl); intro w' hS)
               have hb1 : b = rb := (show (some b).getD 0 = rb by assumption)
               rw [hyes (by rw [hone, decide_eq_true hb1, show hasC x.members n = true by assumption, show hasC y.members n = true by assumption]; rfl)]
               exact ⟨rfl, hS.toKeep⟩)
            | (refine At.again (i + 1) ⟨by omega, ?_⟩ ?_ ⟨?_, trivial⟩ (fun w' hw' => hw') (by omega)
               · rw [hsu, hone]
                 first
                   | (rw [decide_eq_false (show ¬ b = rb from (show ¬ (some b).getD 0 = rb by assumption))]; rfl)
                   | (rw [show hasC x.members n = false by assumption]; simp; done)
                   | (rw [show hasC y.members n = false by assumption]; simp; done)
               · (repeat (first | exact Out.refl _ _ | exact Out.mix | (apply Out.upd; (· exact rfl)) | (apply Out.updL; (· exact rfl)) | (apply Out.mixs; (· exact rfl))))
               · exact congrArg (Value.int .i64) hn1))
      · have hie : i = 8 := by omega
        subst hie
        rw [hno]
        repeat'(first|refine kv' ?_|apply jJ|refine jE' ?_|refine jp' ?_|(apply jc;kernel_rfl)|refine kg' ?_|refine kG' ?_|refine kB' fun _=>?_|refine kA' fun _=>?_|refine kK' fun _=>?_|refine kU' ?_|((first|refine kR' ?_ ?_|refine kQ' ?_ ?_);all_goals(intro hc;try simp only[hcs]at hc;try(exfalso;first|contradiction|omega))))
        (apply ret1; (· exact rfl); intro w' hS)
        exact ⟨rfl, hS.toKeep⟩
def bbv (bs : List Bool) : List Value := bs.map Value.bool
theorem bbv_len (bs : List Bool) : (bbv bs).length = bs.length := by simp [bbv]
theorem bbv_get {bs : List Bool} {i : Nat} (h : i < bs.length) : (bbv bs)[i]? = some (.bool (bs.getD i false)) := by
  unfold bbv; rw [List.getElem?_map, List.getElem?_eq_getElem h, List.getD_eq_getElem?_getD, List.getElem?_eq_getElem h]; rfl
theorem bbv_at {bs : List Bool} {q i : Nat} {v : Bool} (hq : q = i) (h : i < bs.length) (hv : bs.getD i false = v) : (bbv bs)[q]? = some (.bool v) := by subst hq; rw [bbv_get h, hv]
theorem splice_bbv (bs : List Bool) (i : Nat) (x : Bool) (h : i < bs.length) : splice (bbv bs) i [.bool x] = bbv (bs.set i x) := by
  unfold splice bbv
  simp only [List.length_cons, List.length_nil, List.map_set]
  rw [List.set_eq_take_append_cons_drop, if_pos (by simpa using h)]
  simp
theorem put_bool {b o n c q : Nat} {bs : List Bool} (x : Bool) {i : Nat} (h : i < bs.length) (hq : q = o + i) :
    Stores Try.prog 4 ⟨b, q, none⟩ (.bool x) (osl (.slice (some ⟨b, o, none⟩) n c) 4 1 n (bbv bs)) (osl (.slice (some ⟨b, o, none⟩) n c) 4 1 n (bbv (bs.set i x))) := by
  subst hq
  have st := Stores.osl (P := Try.prog) (T := 4) (q := 1) (b := b) (o := o) (i := i) (n := n) (c := c) (v := .bool x) (vs := [.bool x]) (xs := bbv bs) (E := 4) (sz := 1) inferInstance rfl rfl rfl (by rw [bbv_len]; show i + 1 ≤ _; omega)
  rwa [splice_bbv _ _ _ h] at st
theorem rep_bbv (n : Nat) : (List.replicate n [Value.bool false]).flatten = bbv (List.replicate n false) := by
  induction n with
  | zero => rfl
  | succ n ih => rw [List.replicate_succ, List.flatten_cons, ih]; rfl
abbrev bO (b n : Nat) (bs : List Bool) : Asrt := osl (.slice (some ⟨b, 0, none⟩) n n) 4 1 n (bbv bs)
set_option maxHeartbeats 4000000 in
theorem m26 (p : Pln) (A : PlA) (hi : PlI p) (fr : Int) (K : List Plc) (a : Option Addr) (c : Nat) (w : World) (hr : PlR w p A) (hk : Rd w a (pcs K)) (hm : K.length * 32 ≤ 140737488351232) :
    CallsTo Try.prog 26 [p.val A, .int .i64 fr, .slice a K.length c] w fun v w' => plR w w' v (viewR (p.R, p.G) fr K) := by
  refine go_in (n := 96) ((pl_in hr).addRd hk (fun _ _ h => h)) Try.func26 rfl rfl ?_
  rw [show p.val A = .agg [.slice A.ra p.R.length A.rc, .slice A.ga p.G.length A.gc].toArray from rfl]
  generalize hV : viewR (p.R, p.G) fr K = V
  unfold viewR at hV
  cases hck : chkP p.R p.G with
  | false =>
    rw [show chkP (p.R, p.G).1 (p.R, p.G).2 = false from hck, Bool.false_and, if_neg (by simp)] at hV
    subst hV
    repeat'(first|refine kv' ?_|apply jJ|refine jE' ?_|refine jp' ?_|(apply jc;kernel_rfl)|refine kg' ?_|refine kG' ?_|refine kB' fun _=>?_|refine kA' fun _=>?_|refine kK' fun _=>?_|refine kU' ?_|(apply kq; (· exact rfl); (· intro w1 h1; first | exact (show CallsTo Try.prog 14 [p.val A] w1 _ from m14F hi h1 ⟨h1.rd_of memZ, h1.rd_of memZ⟩ hck) | exact CallsTo.q (m57 K a c fr w1 (h1.rd_of memZ) hm) h1))|((first|refine kR' ?_ ?_|refine kQ' ?_ ?_);all_goals(intro hc;try simp only[hcs]at hc;try(exfalso;first|contradiction|omega))))
    (apply ret1; (· exact rfl); intro w' hS)
    exact plR_nil w hS.toKeep
  | true =>
    rw [show chkP (p.R, p.G).1 (p.R, p.G).2 = true from hck, Bool.true_and] at hV
    cases hrg : ringG p.R fr with
    | false =>
      rw [show ringG (p.R, p.G).1 fr = false from hrg, Bool.false_and, if_neg (by simp)] at hV
      subst hV
      repeat'(first|refine kv' ?_|apply jJ|refine jE' ?_|refine jp' ?_|(apply jc;kernel_rfl)|refine kg' ?_|refine kG' ?_|refine kB' fun _=>?_|refine kA' fun _=>?_|refine kK' fun _=>?_|refine kU' ?_|(apply kq; (· exact rfl); (· intro w1 h1; first | exact (show CallsTo Try.prog 14 [p.val A] w1 _ from m14T hi h1 ⟨h1.rd_of memZ, h1.rd_of memZ⟩ hck) | exact CallsTo.q (m57 K a c fr w1 (h1.rd_of memZ) hm) h1 | (have hq := CallsTo.q (m58 p A fr w1) h1; rw [hrg] at hq; exact hq)))|((first|refine kR' ?_ ?_|refine kQ' ?_ ?_);all_goals(intro hc;try simp only[hcs]at hc;try(exfalso;first|contradiction|omega))))
      (apply ret1; (· exact rfl); intro w' hS)
      exact plR_nil w hS.toKeep
    | true =>
      rw [show ringG (p.R, p.G).1 fr = true from hrg, Bool.true_and] at hV
      cases hpk : plcK K fr with
      | none =>
        rw [hpk, if_neg (by simp)] at hV
        subst hV
        repeat'(first|refine kv' ?_|apply jJ|refine jE' ?_|refine jp' ?_|(apply jc;kernel_rfl)|refine kg' ?_|refine kG' ?_|refine kB' fun _=>?_|refine kA' fun _=>?_|refine kK' fun _=>?_|refine kU' ?_|(apply kq; (· exact rfl); (· intro w1 h1; first | exact (show CallsTo Try.prog 14 [p.val A] w1 _ from m14T hi h1 ⟨h1.rd_of memZ, h1.rd_of memZ⟩ hck) | (have hq := CallsTo.q (m57 K a c fr w1 (h1.rd_of memZ) hm) h1; rw [hpk] at hq; exact hq) | (have hq := CallsTo.q (m58 p A fr w1) h1; rw [hrg] at hq; exact hq)))|((first|refine kR' ?_ ?_|refine kQ' ?_ ?_);all_goals(intro hc;try simp only[hcs]at hc;try(exfalso;first|contradiction|omega))))
        (apply ret1; (· exact rfl); intro w' hS)
        exact plR_nil w hS.toKeep
      | some x0 =>
        have hV : outR K (finS (p.R, p.G) K fr.toNat) p.R.length = V := by rw [hpk, if_pos (by rfl)] at hV; exact hV
        have hok := pl_ok hck
        have hl1 := hok.l1
        have hl4 := hok.l4
        have hfr : 0 ≤ fr ∧ fr < p.R.length := by unfold ringG at hrg; exact of_decide_eq_true hrg
        obtain ⟨f, rfl⟩ : ∃ f : Nat, fr = (f : Int) := ⟨fr.toNat, by omega⟩
        rw [Int.toNat_natCast] at hV
        have hfn : f < p.R.length := by omega
        unfold finS at hV
        have hV : outR K (itS (stepsR (p.R, p.G) K) p.R.length (bs0 p.R.length f) p.R.length) p.R.length = V := hV
        obtain ⟨n, hnn⟩ : ∃ n, n = p.R.length := ⟨_, rfl⟩
        repeat'(first|(refine kB' fun b1 => ?_)|refine kv' ?_|apply jJ|refine jE' ?_|refine jp' ?_|(apply jc;kernel_rfl)|refine kg' ?_|refine kG' ?_|refine kB' fun _=>?_|refine kA' fun _=>?_|refine kK' fun _=>?_|refine kU' ?_|(apply kq; (· exact rfl); (· intro w1 h1; first | exact (show CallsTo Try.prog 14 [p.val A] w1 _ from m14T hi h1 ⟨h1.rd_of memZ, h1.rd_of memZ⟩ hck) | (have hq := CallsTo.q (m57 K a c f w1 (h1.rd_of memZ) hm) h1; rw [hpk] at hq; exact hq) | (have hq := CallsTo.q (m58 p A f w1) h1; rw [hrg] at hq; exact hq)))|((first|refine kR' ?_ ?_|refine kQ' ?_ ?_);all_goals(intro hc;try simp only[hcs]at hc;try(exfalso;first|contradiction|omega))))
        refine LR.makeSlice (m := p.R.length) (cs := [Value.bool false]) rfl rfl (by omega) (by omega) rfl rfl fun bb => ?_
        refine LR.own_osl (k := p.R.length) (sz := 1) (E := 4) (Sel.head _ _ _) (by simp) (by unfold maxLen; omega) ?_
        refine LR.sub (D := St w NoF [bO bb p.R.length (List.replicate p.R.length false), .own b1 (.cells [Value.slice A.ra p.R.length A.rc, .slice A.ga p.G.length A.gc].toArray 25 (0, 0)), rdA a (pcs K), rdA A.ga (gv p.G), rdA A.ra (iv p.R)]) (fun w' hw' => by rw [rep_bbv] at hw'; exact hw'.sub subZ) ?_
        have hS : stepsR (p.R, p.G) K = stepsR (p.R, p.G) K := rfl
        generalize hst : stepsR (p.R, p.G) K = st at hV hS
        repeat'(first|refine kv' ?_|apply jJ|refine jE' ?_|refine jp' ?_|(apply jc;kernel_rfl)|refine kg' ?_|refine kG' ?_|refine kB' fun _=>?_|refine kA' fun _=>?_|refine kK' fun _=>?_|refine kU' ?_|(apply idxX;(iterate 2 exact rfl);(iterate 2(first|omega|(dsimp only;omega)));exact rfl)|((first|refine kR' ?_ ?_|refine kQ' ?_ ?_);all_goals(intro hc;try simp only[hcs]at hc;try(exfalso;first|contradiction|omega))))
        refine LR.store_obj rfl rfl (Sel.head _ _ _) rfl (put_bool (bs := List.replicate p.R.length false) true (i := f) (by simp; omega) (by omega)) (osl.dep _ _ _ _ _) ?_
        have hb0 : (List.replicate p.R.length false).set f true = bs0 p.R.length f := rfl
        rw [hb0]
        have hbl := bs0_len p.R.length f
        generalize bs0 p.R.length f = B0 at hV hbl ⊢
        repeat'(first|refine kv' ?_|apply jJ|refine jE' ?_|refine jp' ?_|(apply jc;kernel_rfl)|refine kg' ?_|refine kG' ?_|refine kB' fun _=>?_|refine kA' fun _=>?_|refine kK' fun _=>?_|refine kU' ?_|((first|refine kR' ?_ ?_|refine kQ' ?_ ?_);all_goals(intro hc;try simp only[hcs]at hc;try(exfalso;first|contradiction|omega))))
        apply CW.loop [10, 11, 12, 43, 44, 45, 46, 47, 48, 49, 50, 51, 52, 53, 54, 55, 56, 57, 58, 59, 60, 61, 62, 63, 64, 65, 66, 67, 68, 69, 70, 71, 72, 73, 74] (fun k : Nat => k ≤ p.R.length) (fun k => [(10, .int .i64 (k : Int))]) (fun k => St w NoF [bO bb p.R.length (itS st p.R.length B0 k), .own b1 (.cells [Value.slice A.ra p.R.length A.rc, .slice A.ga p.G.length A.gc].toArray 25 (0, 0)), rdA a (pcs K), rdA A.ga (gv p.G), rdA A.ra (iv p.R)]) (fun k => p.R.length - k)
        · exact fun w' hw' => ⟨0, by omega, ⟨rfl, trivial⟩, hw'⟩
        intro k g1 hk1
        have hkl := itS_len st p.R.length B0 k
        by_cases hlt : k < p.R.length
        · have hit : itS st p.R.length B0 (k + 1) = swp st p.R.length (itS st p.R.length B0 k) := rfl
          generalize itS st p.R.length B0 k = B1 at hkl hit ⊢
          repeat'(first|refine kv' ?_|apply jJ|refine jE' ?_|refine jp' ?_|(apply jc;kernel_rfl)|refine kg' ?_|refine kG' ?_|refine kB' fun _=>?_|refine kA' fun _=>?_|refine kK' fun _=>?_|refine kU' ?_|((first|refine kR' ?_ ?_|refine kQ' ?_ ?_);all_goals(intro hc;try simp only[hcs]at hc;try(exfalso;first|contradiction|omega))))
          apply CW.loop [11, 12, 49, 50, 51, 52, 53, 54, 55, 56, 57, 58, 59, 60, 61, 62, 63, 64, 65, 66, 67, 68, 69, 70, 71, 72, 73, 74] (fun i : Nat => i ≤ p.R.length) (fun i => [(11, .int .i64 (i : Int))]) (fun i => St w NoF [bO bb p.R.length ((List.range i).foldl (rowS st p.R.length) B1), .own b1 (.cells [Value.slice A.ra p.R.length A.rc, .slice A.ga p.G.length A.gc].toArray 25 (0, 0)), rdA a (pcs K), rdA A.ga (gv p.G), rdA A.ra (iv p.R)]) (fun i => p.R.length - i)
          · exact fun w' hw' => ⟨0, by omega, ⟨rfl, trivial⟩, hw'⟩
          intro i g2 hi1
          have hil := (Le.fold (f := rowS st p.R.length) (fun bs a => Le.row st p.R.length a bs) (List.range i) B1).len
          have hi2 : (List.range (i + 1)).foldl (rowS st p.R.length) B1 = rowS st p.R.length ((List.range i).foldl (rowS st p.R.length) B1) i := by rw [List.range_succ, List.foldl_append]; rfl
          by_cases hlt2 : i < p.R.length
          · generalize (List.range i).foldl (rowS st p.R.length) B1 = B2 at hil hi2 ⊢
            repeat'(first|refine kv' ?_|apply jJ|refine jE' ?_|refine jp' ?_|(apply jc;kernel_rfl)|refine kg' ?_|refine kG' ?_|refine kB' fun _=>?_|refine kA' fun _=>?_|refine kK' fun _=>?_|refine kU' ?_|((first|refine kR' ?_ ?_|refine kQ' ?_ ?_);all_goals(intro hc;try simp only[hcs]at hc;try(exfalso;first|contradiction|omega))))
            apply CW.loop [12, 55, 56, 57, 58, 59, 60, 61, 62, 63, 64, 65, 66, 67, 68, 69, 70, 71, 72, 73, 74] (fun j : Nat => j ≤ p.R.length) (fun j => [(12, .int .i64 (j : Int))]) (fun j => St w NoF [bO bb p.R.length ((List.range j).foldl (sw1 st i) B2), .own b1 (.cells [Value.slice A.ra p.R.length A.rc, .slice A.ga p.G.length A.gc].toArray 25 (0, 0)), rdA a (pcs K), rdA A.ga (gv p.G), rdA A.ra (iv p.R)]) (fun j => p.R.length - j)
            · exact fun w' hw' => ⟨0, by omega, ⟨rfl, trivial⟩, hw'⟩
            intro j g3 hj1
            have hjl := (Le.fold (f := sw1 st i) (fun bs b => Le.sw1 st i b bs) (List.range j) B2).len
            have hj2 : (List.range (j + 1)).foldl (sw1 st i) B2 = sw1 st i ((List.range j).foldl (sw1 st i) B2) j := by rw [List.range_succ, List.foldl_append]; rfl
            by_cases hlt3 : j < p.R.length
            · generalize (List.range j).foldl (sw1 st i) B2 = B3 at hjl hj2 ⊢
              have hsw : sw1 st i B3 j = if B3.getD i false && st i j then B3.set j true else B3 := rfl
              cases hba : B3.getD i false with
              | false =>
                rw [hba, Bool.false_and, if_neg (by simp)] at hsw
                repeat'(first|refine kv' ?_|apply jJ|refine jE' ?_|refine jp' ?_|(apply jc;kernel_rfl)|refine kg' ?_|refine kG' ?_|refine kB' fun _=>?_|refine kA' fun _=>?_|refine kK' fun _=>?_|refine kU' ?_|(apply idxX;(iterate 2 exact rfl);(iterate 2(first|omega|(dsimp only;omega)));exact rfl)|(apply addX;(iterate 2 exact rfl);(iterate 2(first|omega|(dsimp only;omega)));exact rfl)|(apply LR.ev; (· apply Ev.load_osl; (· exact rfl); (· repeat (first | exact mH _ _ | apply mT)); (· exact bbv_at (bs := B3) (i := i) (by simp) (by omega) hba)); (· exact rfl))|((first|refine kR' ?_ ?_|refine kQ' ?_ ?_);all_goals(intro hc;try simp only[hcs]at hc;try(exfalso;first|contradiction|omega))))
                refine At.again (j + 1) (by omega) ?_ ⟨rfl, trivial⟩ (fun w' hw' => by rw [hj2, hsw]; exact hw') (by omega)
                (repeat (first | exact Out.refl _ _ | exact Out.mix | (apply Out.upd; (· exact rfl)) | (apply Out.updL; (· exact rfl)) | (apply Out.mixs; (· exact rfl))))
              | true =>
                cases hsj : st i j with
                | false =>
                  rw [hba, hsj, Bool.and_false, if_neg (by simp)] at hsw
                  repeat'(first|refine kv' ?_|apply jJ|refine jE' ?_|refine jp' ?_|(apply jc;kernel_rfl)|refine kg' ?_|refine kG' ?_|refine kB' fun _=>?_|refine kA' fun _=>?_|refine kK' fun _=>?_|refine kU' ?_|(apply idxX;(iterate 2 exact rfl);(iterate 2(first|omega|(dsimp only;omega)));exact rfl)|(apply addX;(iterate 2 exact rfl);(iterate 2(first|omega|(dsimp only;omega)));exact rfl)|(apply LR.ev; (· apply Ev.load_osl; (· exact rfl); (· repeat (first | exact mH _ _ | apply mT)); (· exact bbv_at (bs := B3) (i := i) (by simp) (by omega) hba)); (· exact rfl))|(apply kq; (· exact rfl); (· intro w1 h1; have hq := CallsTo.q (m59 p A hi K a c i j w1 ⟨h1.rd_of memZ, h1.rd_of memZ⟩ (h1.rd_of memZ) hm) h1; rw [hst, hsj] at hq; exact hq))|((first|refine kR' ?_ ?_|refine kQ' ?_ ?_);all_goals(intro hc;try simp only[hcs]at hc;try(exfalso;first|contradiction|omega))))
                  refine At.again (j + 1) (by omega) ?_ ⟨rfl, trivial⟩ (fun w' hw' => by rw [hj2, hsw]; exact hw') (by omega)
                  (repeat (first | exact Out.refl _ _ | exact Out.mix | (apply Out.upd; (· exact rfl)) | (apply Out.updL; (· exact rfl)) | (apply Out.mixs; (· exact rfl))))
                | true =>
                  rw [hba, hsj, Bool.and_self, if_pos rfl] at hsw
                  repeat'(first|refine kv' ?_|apply jJ|refine jE' ?_|refine jp' ?_|(apply jc;kernel_rfl)|refine kg' ?_|refine kG' ?_|refine kB' fun _=>?_|refine kA' fun _=>?_|refine kK' fun _=>?_|refine kU' ?_|(apply idxX;(iterate 2 exact rfl);(iterate 2(first|omega|(dsimp only;omega)));exact rfl)|(apply addX;(iterate 2 exact rfl);(iterate 2(first|omega|(dsimp only;omega)));exact rfl)|(apply LR.ev; (· apply Ev.load_osl; (· exact rfl); (· repeat (first | exact mH _ _ | apply mT)); (· exact bbv_at (bs := B3) (i := i) (by simp) (by omega) hba)); (· exact rfl))|(apply kq; (· exact rfl); (· intro w1 h1; have hq := CallsTo.q (m59 p A hi K a c i j w1 ⟨h1.rd_of memZ, h1.rd_of memZ⟩ (h1.rd_of memZ) hm) h1; rw [hst, hsj] at hq; exact hq))|((first|refine kR' ?_ ?_|refine kQ' ?_ ?_);all_goals(intro hc;try simp only[hcs]at hc;try(exfalso;first|contradiction|omega))))
                  refine LR.store_obj rfl rfl (Sel.head _ _ _) rfl (put_bool (bs := B3) true (i := j) (by omega) (by omega)) (osl.dep _ _ _ _ _) ?_
                  repeat'(first|refine kv' ?_|apply jJ|refine jE' ?_|refine jp' ?_|(apply jc;kernel_rfl)|refine kg' ?_|refine kG' ?_|refine kB' fun _=>?_|refine kA' fun _=>?_|refine kK' fun _=>?_|refine kU' ?_|(apply addX;(iterate 2 exact rfl);(iterate 2(first|omega|(dsimp only;omega)));exact rfl)|((first|refine kR' ?_ ?_|refine kQ' ?_ ?_);all_goals(intro hc;try simp only[hcs]at hc;try(exfalso;first|contradiction|omega))))
                  refine At.again (j + 1) (by omega) ?_ ⟨rfl, trivial⟩ (fun w' hw' => by rw [hj2, hsw]; exact hw') (by omega)
                  (repeat (first | exact Out.refl _ _ | exact Out.mix | (apply Out.upd; (· exact rfl)) | (apply Out.updL; (· exact rfl)) | (apply Out.mixs; (· exact rfl))))
            have hje : j = p.R.length := by omega
            subst hje
            repeat'(first|refine kv' ?_|apply jJ|refine jE' ?_|refine jp' ?_|(apply jc;kernel_rfl)|refine kg' ?_|refine kG' ?_|refine kB' fun _=>?_|refine kA' fun _=>?_|refine kK' fun _=>?_|refine kU' ?_|(apply addX;(iterate 2 exact rfl);(iterate 2(first|omega|(dsimp only;omega)));exact rfl)|((first|refine kR' ?_ ?_|refine kQ' ?_ ?_);all_goals(intro hc;try simp only[hcs]at hc;try(exfalso;first|contradiction|omega))))
            refine At.again (i + 1) (by omega) ?_ ⟨rfl, trivial⟩ (fun w' hw' => by rw [hi2]; exact hw') (by omega)
            (repeat (first | exact Out.refl _ _ | exact Out.mix | (apply Out.upd; (· exact rfl)) | (apply Out.updL; (· exact rfl)) | (apply Out.mixs; (· exact rfl))))
          have hie : i = p.R.length := by omega
          subst hie
          repeat'(first|refine kv' ?_|apply jJ|refine jE' ?_|refine jp' ?_|(apply jc;kernel_rfl)|refine kg' ?_|refine kG' ?_|refine kB' fun _=>?_|refine kA' fun _=>?_|refine kK' fun _=>?_|refine kU' ?_|(apply addX;(iterate 2 exact rfl);(iterate 2(first|omega|(dsimp only;omega)));exact rfl)|((first|refine kR' ?_ ?_|refine kQ' ?_ ?_);all_goals(intro hc;try simp only[hcs]at hc;try(exfalso;first|contradiction|omega))))
          refine At.again (k + 1) (by omega) ?_ ⟨rfl, trivial⟩ (fun w' hw' => by rw [hit]; exact hw') (by omega)
          (repeat (first | exact Out.refl _ _ | exact Out.mix | (apply Out.upd; (· exact rfl)) | (apply Out.updL; (· exact rfl)) | (apply Out.mixs; (· exact rfl))))
        have hke : k = p.R.length := by omega
        subst hke
        generalize itS st p.R.length B0 p.R.length = FS at hV hkl ⊢
        repeat'(first|refine kv' ?_|apply jJ|refine jE' ?_|refine jp' ?_|(apply jc;kernel_rfl)|refine kg' ?_|refine kG' ?_|refine kB' fun _=>?_|refine kA' fun _=>?_|refine kK' fun _=>?_|refine kU' ?_|((first|refine kR' ?_ ?_|refine kQ' ?_ ?_);all_goals(intro hc;try simp only[hcs]at hc;try(exfalso;first|contradiction|omega))))
        apply CW.loop [13, 14, 15, 16, 75, 76, 77, 78, 79, 80, 81, 82, 83, 84, 85, 86, 87, 88, 89, 90, 91, 92, 93, 94] (fun s : Cst => s.k ≤ p.R.length) (fun s => [(13, .slice s.a (outR K FS s.k).length s.c), (14, .int .i64 (s.k : Int))])
          (fun s => St w NoF [pN s.a (outR K FS s.k).length s.c (outR K FS s.k), bO bb p.R.length FS, .own b1 (.cells [Value.slice A.ra p.R.length A.rc, .slice A.ga p.G.length A.gc].toArray 25 (0, 0)), rdA a (pcs K), rdA A.ga (gv p.G), rdA A.ra (iv p.R)]) (fun s => p.R.length - s.k)
        · exact fun w' hw' => ⟨⟨0, none, 0⟩, by simp, ⟨rfl, rfl, trivial⟩, hw'.nilsl 44 4⟩
        rintro ⟨k, a5, c5⟩ g5 hk5
        simp only at hk5 ⊢
        have hol := outR_len K FS k
        by_cases hlt : k < p.R.length
        · have hou : outR K FS (k + 1) = outR K FS k ++ if FS.getD k false then [(plcK K (k : Int)).getD zP] else [] := rfl
          generalize outR K FS k = O at hol hou ⊢
          cases hba : FS.getD k false with
          | false =>
            rw [hba, if_neg (by simp), List.append_nil] at hou
            repeat'(first|refine kv' ?_|apply jJ|refine jE' ?_|refine jp' ?_|(apply jc;kernel_rfl)|refine kg' ?_|refine kG' ?_|refine kB' fun _=>?_|refine kA' fun _=>?_|refine kK' fun _=>?_|refine kU' ?_|(apply idxX;(iterate 2 exact rfl);(iterate 2(first|omega|(dsimp only;omega)));exact rfl)|(apply addX;(iterate 2 exact rfl);(iterate 2(first|omega|(dsimp only;omega)));exact rfl)|(apply LR.ev; (· apply Ev.load_osl; (· exact rfl); (· repeat (first | exact mH _ _ | apply mT)); (· exact bbv_at (bs := FS) (i := k) (by simp) (by omega) hba)); (· exact rfl))|((first|refine kR' ?_ ?_|refine kQ' ?_ ?_);all_goals(intro hc;try simp only[hcs]at hc;try(exfalso;first|contradiction|omega))))
            refine At.again (⟨k + 1, a5, c5⟩ : Cst) (by simp only; omega) ?_ ⟨?_, rfl, trivial⟩ ?_ (by simp only; omega)
            · (repeat (first | exact Out.refl _ _ | exact Out.mix | (apply Out.upd; (· exact rfl)) | (apply Out.updL; (· exact rfl)) | (apply Out.mixs; (· exact rfl))))
            · simp only
              rw [hou]
              rfl
            · intro w' hw'
              simp only
              rw [hou]
              exact hw'.sub subZ
          | true =>
            rw [hba, if_pos rfl] at hou
            obtain ⟨z, hz⟩ : ∃ z, (plcK K (k : Int)).getD zP = z := ⟨_, rfl⟩
            obtain ⟨zb, hzb⟩ : ∃ zb, (plcK K (k : Int)).isSome = zb := ⟨_, rfl⟩
            rw [hz] at hou
            repeat'(first|(apply Go.Hb.kK;(iterate 4 exact rfl);intro bs)|refine kv' ?_|apply jJ|refine jE' ?_|refine jp' ?_|(apply jc;kernel_rfl)|refine kg' ?_|refine kG' ?_|refine kB' fun _=>?_|refine kA' fun _=>?_|refine kK' fun _=>?_|refine kU' ?_|(apply idxX;(iterate 2 exact rfl);(iterate 2(first|omega|(dsimp only;omega)));exact rfl)|(apply addX;(iterate 2 exact rfl);(iterate 2(first|omega|(dsimp only;omega)));exact rfl)|(apply LR.ev; (· apply Ev.load_osl; (· exact rfl); (· repeat (first | exact mH _ _ | apply mT)); (· exact bbv_at (bs := FS) (i := k) (by simp) (by omega) hba)); (· exact rfl))|(apply kq; (· exact rfl); (· intro w1 h1; have hq := CallsTo.q (m57 K a c k w1 (h1.rd_of memZ) hm) h1; unfold plcV at hq; rw [hz, hzb] at hq; exact hq))|(apply LR.append (xs := pcs O) (news := z.cells) (m := 1); (· exact rfl); (· exact rfl); (· intro a' c'; (repeat (first | exact sH _ _ _ | apply sT))); (· exact fun w' hw' => hw'.rd_of_blk (mH _ _)); (· exact fun hx => by cases hx); (· exact rfl); (· exact rfl); (· omega); (· unfold maxLen; omega); (· exact rfl); (intro a6 c6))|((first|refine kR' ?_ ?_|refine kQ' ?_ ?_);all_goals(intro hc;try simp only[hcs]at hc;try(exfalso;first|contradiction|omega))))
            refine At.again (⟨k + 1, a6, c6⟩ : Cst) (by simp only; omega) ?_ ⟨?_, rfl, trivial⟩ ?_ (by simp only; omega)
            · (repeat (first | exact Out.refl _ _ | exact Out.mix | (apply Out.upd; (· exact rfl)) | (apply Out.updL; (· exact rfl)) | (apply Out.mixs; (· exact rfl))))
            · simp only
              rw [hou, List.length_append]
              rfl
            · intro w' hw'
              simp only
              rw [hou]
              rw [pN_snoc]
              exact hw'.sub subZ
        · have hke : k = p.R.length := by omega
          subst hke
          rw [hV] at hol ⊢
          repeat'(first|refine kv' ?_|apply jJ|refine jE' ?_|refine jp' ?_|(apply jc;kernel_rfl)|refine kg' ?_|refine kG' ?_|refine kB' fun _=>?_|refine kA' fun _=>?_|refine kK' fun _=>?_|refine kU' ?_|((first|refine kR' ?_ ?_|refine kQ' ?_ ?_);all_goals(intro hc;try simp only[hcs]at hc;try(exfalso;first|contradiction|omega))))
          (apply ret1; (· exact rfl); intro w' hS)
          exact ⟨a5, c5, rfl, hS.toNew memZ⟩
end Go.Proofs.Ytgblmkpfkcibiaa

namespace Go.Hb
def eq3V : Value → Value → Option Bool
  | .agg ⟨[.int .i64 a, .int .i64 b, .int .i64 c]⟩, .agg ⟨[.int .i64 a', .int .i64 b', .int .i64 c']⟩ => some (decide ([a, b, c] = [a', b', c']))
  | _, _ => none
def eq6V : Value → Value → Option Bool
  | .agg ⟨[.int .i64 a, .int .i64 b, .int .i64 c, .int .i64 d, .int .i64 e, .int .i64 g]⟩, .agg ⟨[.int .i64 a', .int .i64 b', .int .i64 c', .int .i64 d', .int .i64 e', .int .i64 g']⟩ => some (decide ([a, b, c, d, e, g] = [a', b', c', d', e', g']))
  | _, _ => none
theorem eq3V_inv {v u : Value} {r : Bool} (h : eq3V v u = some r) : ∃ xs ys : List Int, v = .agg (xs.map (Value.int .i64)).toArray ∧ u = .agg (ys.map (Value.int .i64)).toArray ∧ xs.length = 3 ∧ ys.length = 3 ∧ r = decide (xs = ys) := by
  unfold eq3V at h; split at h
  · rename_i a b c a' b' c'; cases h; exact ⟨[a, b, c], [a', b', c'], rfl, rfl, rfl, rfl, rfl⟩
  · cases h
theorem eq6V_inv {v u : Value} {r : Bool} (h : eq6V v u = some r) : ∃ xs ys : List Int, v = .agg (xs.map (Value.int .i64)).toArray ∧ u = .agg (ys.map (Value.int .i64)).toArray ∧ xs.length = 6 ∧ ys.length = 6 ∧ r = decide (xs = ys) := by
  unfold eq6V at h; split at h
  · rename_i a b c d e g a' b' c' d' e' g'; cases h; exact ⟨[a, b, c, d, e, g], [a', b', c', d', e', g'], rfl, rfl, rfl, rfl, rfl⟩
  · cases h
instance {P : Program} {T : TypeId} [h : Eqs P T 3] : EqOf P T eq3V where
  eq := fun hb => by obtain ⟨_, _, h1, h2, h3, h4, rfl⟩ := eq3V_inv hb; exact Ev.structs h1 h2 h3 h4
  ne := fun hb => by obtain ⟨_, _, h1, h2, h3, h4, rfl⟩ := eq3V_inv hb; exact Ev.structs_ne h1 h2 h3 h4
instance {P : Program} {T : TypeId} [h : Eqs P T 6] : EqOf P T eq6V where
  eq := fun hb => by obtain ⟨_, _, h1, h2, h3, h4, rfl⟩ := eq6V_inv hb; exact Ev.structs h1 h2 h3 h4
  ne := fun hb => by obtain ⟨_, _, h1, h2, h3, h4, rfl⟩ := eq6V_inv hb; exact Ev.structs_ne h1 h2 h3 h4
end Go.Hb

namespace Go.Hb
theorem zeroCells_one (z : Value) (m : Nat) : (Builtin.zeroCells [z].toArray m).toList = List.replicate m z := by
  simp [Builtin.zeroCells]
  apply List.ext_getElem
  · simp
  · intro i h1 h2
    simp [Nat.mod_one]
theorem run_clear {P : Program} {w : World} {t E ty : TypeId} {z : Value} {by_ : Nat} (h : SliceOf P t E 1 by_) (hz : ZeroOf P E [z]) (h1 : z.oneCell' = true) {a : Option Addr} {n c j : Nat} {xs : List Value} (hw : ownsAt w E 1 (.slice a n c) n xs) (hj : j ≤ n) :
    ∃ w', (Builtin.clear_ #[t] ty #[.slice (subA a c j 1) (n - j) (c - j)]).run P w = .ok (.tuple #[]) w' ∧ Step (odl (.slice a n c) E 1 n xs) (odl (.slice a n c) E 1 n (xs.take j ++ List.replicate (n - j) z)) w w' := by
  obtain ⟨hl, hr⟩ := hw
  have hl' : xs.length = n := by omega
  by_cases hm : n - j = 0
  · refine ⟨w, ?_, ?_⟩
    · rw [hm]
      cases subA a c j 1 <;> simp [Builtin.clear_, run_underlying h.und]
    · have e : xs.take j ++ List.replicate (n - j) z = xs := by rw [hm, List.take_of_length_le (by omega)]; simp
      rw [e]
      exact ⟨St.refl w _, ⟨hl, hr⟩, fun k hk => .inl hk⟩
  · rcases hr with ⟨he, hn0⟩ | ⟨g, o, cap, cur, he, hg, hnc, hcm, hcs, htake⟩
    · omega
    simp only [Value.slice.injEq] at he
    obtain ⟨rfl, _, rfl⟩ := he
    obtain ⟨v, hv, hvc⟩ := hz.zero
    have hsub : subA (some ⟨g, o, none⟩) c j 1 = some ⟨g, o + j, none⟩ := by
      unfold subA
      rw [if_neg (by omega)]
      simp [addr_add]
    have hst := run_storeCells_at P g (o + j) E (List.replicate (n - j) z) 0 cur w (by simpa using hg) (by simp; omega) (fun u hu => by rw [List.eq_of_mem_replicate hu]; exact h1)
    have e : ∀ (D vs : List Value), D.take (o + j + 0) ++ vs ++ D.drop (o + j + 0 + vs.length) = splice D (o + j) vs := fun _ _ => rfl
    rw [e] at hst
    obtain ⟨m, hm'⟩ : ∃ m, n - j = m + 1 := ⟨n - j - 1, by omega⟩
    have hg' : w.heap[g]? = some (.cells cur.toList.toArray E (0, 0)) := by simpa using hg
    have hsz : cur.toList.length = cur.size := Array.length_toList
    refine ⟨w.setRow g (splice cur.toList (o + j) (List.replicate (n - j) z)).toArray, ?_, Keep.setRow w g _ _ E hg rfl, ⟨by simp; omega, .inr ⟨g, o, c, _, rfl, setRow_heap w g _ _ E (0, 0) hg, hnc, hcm, ?_, ?_⟩⟩, fun k hk => .inl hk⟩
    · rw [hsub]
      have hzc := zeroCells_one z (n - j)
      rw [hm'] at hzc hst ⊢
      simp [Builtin.clear_, run_underlying h.und, hv, hvc, hzc, hst]
    · simp [splice]; omega
    · show ((splice cur.toList (o + j) (List.replicate (n - j) z)).drop o).take (n * 1) = _
      rw [splice_drop (by omega), splice_take (by simp; omega) (by simp; omega), htake]
      unfold splice
      rw [List.drop_eq_nil_of_le (by simp; omega), List.append_nil]
section
variable {P : Program} {f : Frm} {T T' : TypeId} {x : Operand} {w0 : World} {F : Nat → Prop} {L L' : List Asrt}
variable {n' : Nat} {ops rest : List Oper} {Q : Post} {p : String} {af : Array Edge}
theorem LR.clear {E : TypeId} {z : Value} {by_ n c j : Nat} {a : Option Addr} {xs : List Value} [h : SliceOf P T E 1 by_] [hz : ZeroOf P E [z]] (hx : f.ev x = .slice (subA a c j 1) (n - j) (c - j)) (h1 : z.oneCell' = true)
    (hs : Sel L (odl (.slice a n c) E 1 n xs) (odl (.slice a n c) E 1 n (xs.take j ++ List.replicate (n - j) z)) L') (hj : j ≤ n)
    (k : LR false P n' ops rest Q f (St w0 F L')) : LR false P n' ops (⟨none, .call ⟨.builtin .clear, [x].toArray, [T].toArray⟩, T', p, af, none⟩ :: rest) Q f (St w0 F L) := by
  intro w hw b hb
  refine wpList_plain rfl fun K hK => ?_
  obtain ⟨w', hr, st⟩ := run_clear (P := P) (ty := T') h hz h1 (hw.holds _ hs.mem) hj
  have hr' : (execOp f.ev ⟨none, .call ⟨.builtin .clear, [x].toArray, [T].toArray⟩, T', p, af, none⟩).run P w = .ok (.value (.tuple #[])) w' := by
    simp only [execOp, resolve, invoke, builtin, Sem.run_bind, Sem.run_pure, Result.andThen_ok, List.map_toArray, List.map_cons, List.map_nil, hx, hr]
  rw [← hb.eval] at hr'
  simp only [Oper.wp, hr', Oper.upon_value]
  exact hK _ _ (k _ (hw.did hs rfl st (odl.dep _ _ _ _ _)) _ (hb.put_none _))
theorem LR.mapUpdate {T : TypeId} {x y z : Operand} {v zv : Value} {q : IntKind} {b : Nat} {l : List (Int × Value)} {key : Int} [h : MapOf P T q zv] (hx : f.ev x = .map (some b)) (hy : f.ev y = .int q key) (hz : f.ev z = v)
    (hs : Sel L (.own b (mapObj q l)) (.own b (mapObj q (l ++ [(key, v)]))) L') (hnew : (findI key l 0).isNone = true)
    (k : LR false P n' ops rest Q f (St w0 F L')) : LR false P n' ops (⟨none, .mapUpdate T x y z, T', p, af, none⟩ :: rest) Q f (St w0 F L) := by
  intro w hw a ha
  refine wpList_plain rfl fun K hK => ?_
  obtain ⟨kt, et, ht, hk, _⟩ := h.ex
  have hb : w.heap[b]? = some (.map (ents q 0 l).toArray l.length) := hw.own_at hs.mem
  have hfind : (Instr.findKey kt (.int q key) (ents q 0 l)).run P w = .ok none w := by
    refine MapKept.run_findKey hk ?_
    rw [findNow_ents]
    cases hf : findI key l 0 with
    | none => rfl
    | some r => rw [hf] at hnew; cases hnew
  have hr : (execOp a.eval ⟨none, .mapUpdate T x y z, T', p, af, none⟩).run P w = .ok .skip { w with heap := w.heap.setIfInBounds b (mapObj q (l ++ [(key, v)])) } := by
    rw [ha.eval]
    have e : Obj.map ((ents q 0 l).toArray.push ⟨.int q key, v, l.length⟩) (l.length + 1) = mapObj q (l ++ [(key, v)]) := by
      simp [mapObj, ents_snoc]
    simp only [execOp, hx, hy, hz, Instr.mapUpdate, Sem.run_bind, run_underlying ht, Result.andThen_ok, MapKept.run_getObj_map hb, MapKept.run_checkKey (k := .int q key) hk (by rfl) _ 9999, hfind, MapKept.run_setObj_map _ hb, e, Sem.run_pure]
  simp only [Oper.wp, hr, Oper.upon_skip]
  have hsz : b < w.heap.size := (Array.getElem?_eq_some_iff.1 hb).1
  refine hK _ _ (k _ ?_ _ (ha.put_none undef))
  exact hw.turn hs rfl (Keep.setObj w b _ rfl) (by show (w.heap.setIfInBounds b _)[b]? = _; simp [hsz]) (fun k hk => .inl hk) (Asrt.dep_own _ _)
end
end Go.Hb

namespace Go.Hb
theorem zeroCells_flat (zs : List Value) (hz : 0 < zs.length) (m : Nat) : (Builtin.zeroCells zs.toArray m).toList = (List.replicate m zs).flatten := by
  rw [← made_flat zs hz m]
  rfl
theorem rep_flat_len (zs : List Value) (m : Nat) : (List.replicate m zs).flatten.length = m * zs.length := by
  induction m with
  | zero => simp
  | succ m ih => rw [List.replicate_succ, List.flatten_cons, List.length_append, ih, Nat.succ_mul]; omega
theorem rep_flat_one {zs : List Value} (h : zs.all Value.oneCell' = true) (m : Nat) : ∀ u ∈ (List.replicate m zs).flatten, u.oneCell' = true := by
  intro u hu
  obtain ⟨l, hl, hu⟩ := List.mem_flatten.1 hu
  rw [List.eq_of_mem_replicate hl] at hu
  exact List.all_eq_true.1 h u hu
theorem run_clearN {P : Program} {w : World} {t E ty : TypeId} {zs : List Value} {sz by_ : Nat} (h : SliceOf P t E sz by_) (hz : ZeroOf P E zs) (h1 : zs.all Value.oneCell' = true) (hzl : zs.length = sz) {a : Option Addr} {n c j : Nat} {xs : List Value} (hw : w.ownsRow 0 E sz (.slice a n c) n xs) (hj : j ≤ n) :
    ∃ w', (Builtin.clear_ #[t] ty #[.slice (subA a c j sz) (n - j) (c - j)]).run P w = .ok (.tuple #[]) w' ∧ Step (osl (.slice a n c) E sz n xs) (osl (.slice a n c) E sz n (xs.take (j * sz) ++ (List.replicate (n - j) zs).flatten)) w w' := by
  have hpos := h.pos
  have hw0 := hw
  obtain ⟨hl, hr⟩ := hw
  by_cases hm : n - j = 0
  · refine ⟨w, ?_, ?_⟩
    · rw [hm]
      cases subA a c j sz <;> simp [Builtin.clear_, run_underlying h.und]
    · have hjn : j = n := by omega
      have e : xs.take (j * sz) ++ (List.replicate (n - j) zs).flatten = xs := by rw [hm, hjn, List.take_of_length_le (by omega)]; simp
      rw [e]
      exact ⟨St.refl w _, hw0, fun k hk => .inl hk⟩
  · rcases hr with ⟨he, hn0⟩ | ⟨g, cap, cur, he, hbg, hg, hnc, hcm, hcs, htake⟩
    · omega
    simp only [Value.slice.injEq] at he
    obtain ⟨rfl, _, rfl⟩ := he
    obtain ⟨v, hv, hvc⟩ := hz.zero
    have hsub : subA (some ⟨g, 0, none⟩) c j sz = some ⟨g, 0 + j * sz, none⟩ := by
      unfold subA
      rw [if_neg (by omega)]
      simp [addr_add]
    have hfl := rep_flat_len zs (n - j)
    rw [hzl] at hfl
    have hnj : j * sz + (n - j) * sz = n * sz := by rw [← Nat.add_mul]; congr 1; omega
    have hsz : cur.toList.length = cur.size := Array.length_toList
    have hnn : n * sz ≤ cur.size := by
      have := congrArg List.length htake
      rw [List.length_take, hl, hsz] at this
      omega
    have hst := run_storeCells_at P g (0 + j * sz) E (List.replicate (n - j) zs).flatten 0 cur w (by simpa using hg) (by rw [hfl]; omega) (rep_flat_one h1 _)
    have e : ∀ (D vs : List Value), D.take (0 + j * sz + 0) ++ vs ++ D.drop (0 + j * sz + 0 + vs.length) = splice D (0 + j * sz) vs := fun _ _ => rfl
    rw [e] at hst
    obtain ⟨m, hm'⟩ : ∃ m, n - j = m + 1 := ⟨n - j - 1, by omega⟩
    have hg' : w.heap[g]? = some (.cells cur.toList.toArray E (0, 0)) := by simpa using hg
    have hspl : (splice cur.toList (0 + j * sz) (List.replicate (n - j) zs).flatten).length = cur.size := by
      unfold splice
      simp only [List.length_append, List.length_take, List.length_drop, hfl, hsz]
      omega
    refine ⟨w.setRow g (splice cur.toList (0 + j * sz) (List.replicate (n - j) zs).flatten).toArray, ?_, Keep.setRow w g _ _ E hg rfl, ⟨?_, .inr ⟨g, c, _, rfl, hbg, setRow_heap w g _ _ E (0, 0) hg, hnc, hcm, ?_, ?_⟩⟩, fun k hk => .inl hk⟩
    · rw [hsub]
      have hzc := zeroCells_flat zs (by omega) (n - j)
      rw [hm'] at hzc hst ⊢
      simp only [Nat.zero_add] at hst ⊢
      simp [Builtin.clear_, run_underlying h.und, hv, hvc, hzc, hst]
    · rw [List.length_append, hfl, List.length_take, hl]; omega
    · rw [List.size_toArray, hspl]; exact hcs
    · show (splice cur.toList (0 + j * sz) (List.replicate (n - j) zs).flatten).take (n * sz) = _
      rw [splice_take (by rw [hfl]; omega) (by omega), htake]
      unfold splice
      rw [Nat.zero_add, List.drop_eq_nil_of_le (by rw [hfl, hl]; omega), List.append_nil]
section
variable {P : Program} {f : Frm} {T T' : TypeId} {x : Operand} {w0 : World} {F : Nat → Prop} {L L' : List Asrt}
variable {n' : Nat} {ops rest : List Oper} {Q : Post} {p : String} {af : Array Edge}
theorem LR.clearN {E : TypeId} {zs : List Value} {by_ sz n c j : Nat} {a : Option Addr} {xs : List Value} [h : SliceOf P T E sz by_] [hz : ZeroOf P E zs] (hx : f.ev x = .slice (subA a c j sz) (n - j) (c - j)) (h1 : zs.all Value.oneCell' = true) (hzl : zs.length = sz)
    (hs : Sel L (osl (.slice a n c) E sz n xs) (osl (.slice a n c) E sz n (xs.take (j * sz) ++ (List.replicate (n - j) zs).flatten)) L') (hj : j ≤ n)
    (k : LR false P n' ops rest Q f (St w0 F L')) : LR false P n' ops (⟨none, .call ⟨.builtin .clear, [x].toArray, [T].toArray⟩, T', p, af, none⟩ :: rest) Q f (St w0 F L) := by
  intro w hw b hb
  refine wpList_plain rfl fun K hK => ?_
  obtain ⟨w', hr, st⟩ := run_clearN (P := P) (ty := T') h hz h1 hzl (hw.holds _ hs.mem) hj
  have hr' : (execOp f.ev ⟨none, .call ⟨.builtin .clear, [x].toArray, [T].toArray⟩, T', p, af, none⟩).run P w = .ok (.value (.tuple #[])) w' := by
    simp only [execOp, resolve, invoke, builtin, Sem.run_bind, Sem.run_pure, Result.andThen_ok, List.map_toArray, List.map_cons, List.map_nil, hx, hr]
  rw [← hb.eval] at hr'
  simp only [Oper.wp, hr', Oper.upon_value]
  exact hK _ _ (k _ (hw.did hs rfl st (osl.dep _ _ _ _ _)) _ (hb.put_none _))
end
theorem ownsRow_cut {w : World} {base E sz n c k : Nat} {a : Option Addr} {xs : List Value} (h : w.ownsRow base E sz (.slice a n c) n xs) (hk : k ≤ n) : w.ownsRow base E sz (.slice a k c) k (xs.take (k * sz)) := by
  obtain ⟨hl, hr⟩ := h
  have hks : k * sz ≤ n * sz := Nat.mul_le_mul_right _ hk
  refine ⟨by rw [List.length_take]; omega, ?_⟩
  rcases hr with ⟨he, hn0⟩ | ⟨g, cap, cur, he, hbg, hg, hnc, hcm, hcs, htake⟩
  · left
    have : k = 0 := by omega
    subst this
    simp only [Value.slice.injEq] at he
    exact ⟨by rw [he.1, he.2.2], rfl⟩
  · right
    simp only [Value.slice.injEq] at he
    refine ⟨g, cap, cur, by rw [he.1, he.2.2], hbg, hg, by omega, hcm, hcs, ?_⟩
    rw [← htake, List.take_take, Nat.min_eq_left hks]
theorem St.osl_cut {w0 w : World} {F : Nat → Prop} {L L' : List Asrt} {E sz n c k : Nat} {a : Option Addr} {xs : List Value} (h : St w0 F L w) (hs : Sel L (osl (.slice a n c) E sz n xs) (osl (.slice a k c) E sz k (xs.take (k * sz))) L') (hk : k ≤ n) : St w0 F L' w :=
  h.turn hs rfl (St.refl w _) (ownsRow_cut (h.holds _ hs.mem) hk) (fun j hj => .inl (by cases a <;> exact hj)) (osl.dep _ _ _ _ _)
end Go.Hb

namespace Go.Proofs.Ytgblmkpfkcibiaa
open Go.Hb
attribute [local irreducible] LR CW At Ev thn blk finK noG again CallsTo DW QL dnext TW DP gpost
set_option maxRecDepth 100000

def orM : List Int → Int
  | [] => 0
  | x :: r => if x ≠ 0 then x else orM r
theorem orM_skip {l : List Int} {i : Nat} (h : i < l.length) (h0 : l[i] = 0) : orM (l.drop i) = orM (l.drop (i + 1)) := by
  rw [List.drop_eq_getElem_cons h, orM, if_neg (by simp [h0])]
theorem orM_hit {l : List Int} {i : Nat} (h : i < l.length) (h0 : ¬ l[i] = 0) : orM (l.drop i) = l[i] := by
  rw [List.drop_eq_getElem_cons h, orM, if_pos h0]
theorem m68 (a : Option Addr) (c : Nat) (l : List Int) (w : World) (hr : Rd w a (iv l)) (hm : l.length ≤ 1000) : CallsTo Try.prog 68 [.slice a l.length c] w fun v w' => v = .int .i64 (orM l) ∧ Grew w w' := by
  refine go_in (n := 18) (St.rd1 hr) Try.func68 rfl rfl ?_
  repeat'(first|refine kv' ?_|apply jJ|refine jE' ?_|refine jp' ?_|(apply jc;kernel_rfl)|refine kg' ?_|refine kG' ?_|refine kB' fun _=>?_|refine kA' fun _=>?_|refine kK' fun _=>?_|refine kU' ?_|((first|refine kR' ?_ ?_|refine kQ' ?_ ?_);all_goals(intro hc;try simp only[hcs]at hc;try(exfalso;first|contradiction|omega))))
  apply CW.loop [2, 5, 8, 9, 10, 11, 12, 13, 14, 15, 16] (fun i : Nat => i ≤ l.length ∧ orM l = orM (l.drop i)) (fun i : Nat => [(8, Value.int .i64 i)]) (fun i => St w NoF [rdA a (iv l)]) (fun i => l.length - i)
  · exact fun w' hw' => ⟨0, ⟨by omega, by simp⟩, ⟨rfl, trivial⟩, hw'⟩
  intro i g ⟨hi, heq⟩
  by_cases hlt : i < l.length
  · obtain ⟨ba, oa, rfl⟩ := hr.form (fun e => by have := congrArg List.length e; simp at this; subst this; simp at hlt)
    repeat'(first|refine kv' ?_|apply jJ|refine jE' ?_|refine jp' ?_|(apply jc;kernel_rfl)|refine kg' ?_|refine kG' ?_|refine kB' fun _=>?_|refine kA' fun _=>?_|refine kK' fun _=>?_|refine kU' ?_|(apply idxX;(iterate 2 exact rfl);(iterate 2(first|omega|(dsimp only;omega)));exact rfl)|(apply LR.ev; (· apply Ev.load_rd; (· exact rfl); (· repeat (first | exact mH _ _ | apply mT)); (· exact iv_at (i := i) (by simp) (by omega))); (· exact rfl))|(apply addX;(iterate 2 exact rfl);(iterate 2(first|omega|(dsimp only;omega)));exact rfl)|((first|refine kR' ?_ ?_|refine kQ' ?_ ?_);all_goals(intro hc;try simp only[hcs]at hc;try(exfalso;first|contradiction|omega))))
    · (apply ret1; (· exact rfl); intro w' hS)
      refine ⟨congrArg (Value.int .i64) ?_, hS.toKeep⟩
      rw [heq, orM_hit hlt hc]
    · apply At.again (i + 1) ⟨by omega, by rw [heq]; exact orM_skip hlt hc⟩
      · (repeat (first | exact Out.refl _ _ | exact Out.mix | (apply Out.upd; (· exact rfl)) | (apply Out.updL; (· exact rfl)) | (apply Out.mixs; (· exact rfl))))
      · exact ⟨rfl, trivial⟩
      · exact fun w' hw' => hw'
      · omega
  · have hie : i = l.length := by omega
    subst hie
    rw [List.drop_length] at heq
    repeat'(first|refine kv' ?_|apply jJ|refine jE' ?_|refine jp' ?_|(apply jc;kernel_rfl)|refine kg' ?_|refine kG' ?_|refine kB' fun _=>?_|refine kA' fun _=>?_|refine kK' fun _=>?_|refine kU' ?_|((first|refine kR' ?_ ?_|refine kQ' ?_ ?_);all_goals(intro hc;try simp only[hcs]at hc;try(exfalso;first|contradiction|omega))))
    (apply ret1; (· exact rfl); intro w' hS)
    exact ⟨by rw [heq]; rfl, hS.toKeep⟩
def ringsM (s r s' r' : Int) : Int := if s = s' then cmpM r r' else cmpM s s'
theorem orM_rings (s r s' r' : Int) : orM [cmpM s s', cmpM r r'] = ringsM s r s' r' := by
  unfold orM orM orM ringsM cmpM
  repeat' split
  all_goals omega
set_option maxHeartbeats 1000000 in
theorem m32 (s r s' r' : Int) (w : World) : CallsTo Try.prog 32 [.agg [.int .i64 s, .int .i64 r].toArray, .agg [.int .i64 s', .int .i64 r'].toArray] w fun v w' => v = .int .i64 (ringsM s r s' r') ∧ Grew w w' := by
  refine go_in (n := 17) (St.refl _ NoF) Try.func32 rfl rfl ?_
  rw [← orM_rings]
  repeat'(first|(apply CW.reg_heldC)|refine kv' ?_|apply jJ|refine jE' ?_|refine jp' ?_|(apply jc;kernel_rfl)|refine kg' ?_|refine kG' ?_|refine kB' fun _=>?_|refine kA' fun _=>?_|refine kK' fun _=>?_|refine kU' ?_|((first|refine kR' ?_ ?_|refine kQ' ?_ ?_);all_goals(intro hc;try simp only[hcs]at hc;try(exfalso;first|contradiction|omega))))
  all_goals (
    apply DW.quiet [0, 1, 2, 3, 5, 6, 7, 8]
    · decide +kernel
    · first | exact fun _ h => h | exact fun _ h => St.sub h subZ
    repeat'(first|refine yv' ?_|refine uv' ?_|refine un' ?_|(refine us' ?_ ?_;all_goals(intro hc;try simp only[hcs]at hc;try(exfalso;first|contradiction|omega)))|apply QL.nil)
    all_goals (show DW _ _ _ _ _ _ _ _))
  all_goals (
    apply DW.loud 4
    · exact rfl
    · decide +kernel
    repeat'(first|refine kg' ?_|refine kG' ?_|apply kM|refine kv' ?_|refine kK' fun _=>?_|refine kU' ?_|refine kB' fun _=>?_|refine kA' fun _=>?_|(apply kq; (· exact rfl); (· intro w1 h1; first | exact CallsTo.q (m69 s s' w1) h1 | exact CallsTo.q (m69 r r' w1) h1 | exact CallsTo.q (m68 _ 2 [cmpM s s', cmpM r r'] w1 (h1.rd_of_blk memZ) (by simp)) h1)))
    all_goals (refine At.stage_same (fun _ h => St.sub h subZ) ?_))
  all_goals (
    apply DW.loud 9
    · exact rfl
    · decide +kernel
    repeat'(first|refine kg' ?_|refine kG' ?_|apply kM|refine kv' ?_|refine kK' fun _=>?_|refine kU' ?_|refine kB' fun _=>?_|refine kA' fun _=>?_|(apply kq; (· exact rfl); (· intro w1 h1; first | exact CallsTo.q (m69 s s' w1) h1 | exact CallsTo.q (m69 r r' w1) h1 | exact CallsTo.q (m68 _ 2 [cmpM s s', cmpM r r'] w1 (h1.rd_of_blk memZ) (by simp)) h1)))
    all_goals (refine At.stage_same (fun _ h => St.sub h subZ) ?_))
  all_goals (
    apply DW.loud 10
    · exact rfl
    · decide +kernel
    repeat'(first|refine kg' ?_|refine kG' ?_|apply kM|refine kv' ?_|refine kK' fun _=>?_|refine kU' ?_|refine kB' fun _=>?_|refine kA' fun _=>?_|(apply kq; (· exact rfl); (· intro w1 h1; first | exact CallsTo.q (m69 s s' w1) h1 | exact CallsTo.q (m69 r r' w1) h1 | exact CallsTo.q (m68 _ 2 [cmpM s s', cmpM r r'] w1 (h1.rd_of_blk memZ) (by simp)) h1)))
    all_goals (refine At.stage_same (fun _ h => St.sub h subZ) ?_))
  all_goals (
    apply DW.loud 11
    · exact rfl
    · decide +kernel
    repeat'(first|refine kg' ?_|refine kG' ?_|apply kM|refine kv' ?_|refine kK' fun _=>?_|refine kU' ?_|refine kB' fun _=>?_|refine kA' fun _=>?_|(apply kq; (· exact rfl); (· intro w1 h1; first | exact CallsTo.q (m69 s s' w1) h1 | exact CallsTo.q (m69 r r' w1) h1 | exact CallsTo.q (m68 _ 2 [cmpM s s', cmpM r r'] w1 (h1.rd_of_blk memZ) (by simp)) h1)))
    all_goals (refine At.stage_same (fun _ h => St.sub h subZ) ?_))
  all_goals (
    apply DW.quiet [12]
    · decide +kernel
    · first | exact fun _ h => h | exact fun _ h => St.sub h subZ
    repeat'(first|refine yv' ?_|refine uv' ?_|refine un' ?_|(refine us' ?_ ?_;all_goals(intro hc;try simp only[hcs]at hc;try(exfalso;first|contradiction|omega)))|apply QL.nil)
    all_goals (show DW _ _ _ _ _ _ _ _))
  all_goals (first | (apply DW.done_thn; (· decide +kernel)) | (apply DW.done; (· decide +kernel)))
  repeat'(first|refine kv' ?_|apply jJ|refine jE' ?_|refine jp' ?_|(apply jc;kernel_rfl)|refine kg' ?_|refine kG' ?_|refine kB' fun _=>?_|refine kA' fun _=>?_|refine kK' fun _=>?_|refine kU' ?_|((first|refine kR' ?_ ?_|refine kQ' ?_ ?_);all_goals(intro hc;try simp only[hcs]at hc;try(exfalso;first|contradiction|omega))))
  (apply ret1; (· exact rfl); intro w' hS)
  exact ⟨rfl, hS.toKeep⟩
def mayP (x : Plc) : Bool := decide (0 ≤ x.ring ∧ x.ring < 4 ∧ ¬(x.seq = 0 ∧ x.rep = 0) ∧ ringE x.seq x.rep = 0) && membersC x.members
end Go.Proofs.Ytgblmkpfkcibiaa

namespace Go.Proofs.Ytgblmkpfkcibiaa
open Go.Hb
attribute [local irreducible] LR CW At Ev thn blk finK noG again CallsTo DW QL dnext TW DP gpost
set_option maxRecDepth 100000

theorem pcs_take (l : List Plc) (k : Nat) (h : k ≤ l.length) : (pcs l).take (k * 4) = pcs (l.take k) := by
  have e : pcs l = pcs (l.take k) ++ pcs (l.drop k) := by unfold pcs; rw [← List.flatMap_append, List.take_append_drop]
  have hl : (pcs (l.take k)).length = k * 4 := by rw [pcs_length, List.length_take]; omega
  rw [e, List.take_append_of_le_length (by omega), List.take_of_length_le (by omega)]
theorem pcs_ones (l : List Plc) : (pcs l).all Value.oneCell' = true := rows_all_one plc_one l
theorem subA0 {b o c sz : Nat} : subA (some ⟨b, o, none⟩) c 0 sz = some ⟨b, o, none⟩ := by
  unfold subA
  split
  · rfl
  · simp [addr_add]
end Go.Proofs.Ytgblmkpfkcibiaa

namespace Go.Proofs.Ytgblmkpfkcibiaa
open Go.Hb
attribute [local irreducible] LR CW At Ev thn blk finK noG again CallsTo DW QL dnext TW DP gpost
set_option maxRecDepth 100000

theorem m62 (K : List Plc) (a : Option Addr) (c : Nat) (w : World) (hk : Rd w a (pcs K)) (hz : a = none → c = 0) (hm : K.length * 32 ≤ 140737488355328) :
    CallsTo Try.prog 62 [.slice a K.length c] w fun v w' => plR w w' v K := by
  refine go_in (n := 8) (St.rd1 hk) Try.func62 rfl rfl ?_
  cases a with
  | none =>
    have hl : K.length = 0 := by have h1 := hk.none_nil; have h2 := pcs_length K; rw [h1, List.length_nil] at h2; omega
    have hK : K = [] := List.eq_nil_of_length_eq_zero hl
    subst hK
    have hc0 := hz rfl
    subst hc0
    repeat'(first|refine kv' ?_|apply jJ|refine jE' ?_|refine jp' ?_|(apply jc;kernel_rfl)|refine kg' ?_|refine kG' ?_|refine kB' fun _=>?_|refine kA' fun _=>?_|refine kK' fun _=>?_|refine kU' ?_|((first|refine kR' ?_ ?_|refine kQ' ?_ ?_);all_goals(intro hc;try simp only[hcs]at hc;try(exfalso;first|contradiction|omega))))
    (apply ret1; (· exact rfl); intro w' hS)
    exact plR_nil w hS.toKeep
  | some ad =>
    repeat'(first|(refine kK' fun bs => ?_)|refine kv' ?_|apply jJ|refine jE' ?_|refine jp' ?_|(apply jc;kernel_rfl)|refine kg' ?_|refine kG' ?_|refine kB' fun _=>?_|refine kA' fun _=>?_|refine kK' fun _=>?_|refine kU' ?_|((first|refine kR' ?_ ?_|refine kQ' ?_ ?_);all_goals(intro hc;try simp only[hcs]at hc;try(exfalso;first|contradiction|omega))))
    refine LR.own_osl (k := 0) (sz := 4) (E := 44) (sH _ _ _) rfl (by unfold maxLen; omega) ?_
    refine LR.append (k := 0) (c := 0) (xs := []) (news := pcs K) (m := K.length) rfl rfl (fun a' c' => by (repeat (first | exact sH _ _ _ | apply sT))) (fun w' hw' => hw'.rd_of memZ) (fun hx => by cases hx) (pcs_length K) (pcs_ones K) (by omega) (by unfold maxLen; omega) rfl fun a2 c2 => ?_
    repeat'(first|refine kv' ?_|apply jJ|refine jE' ?_|refine jp' ?_|(apply jc;kernel_rfl)|refine kg' ?_|refine kG' ?_|refine kB' fun _=>?_|refine kA' fun _=>?_|refine kK' fun _=>?_|refine kU' ?_|((first|refine kR' ?_ ?_|refine kQ' ?_ ?_);all_goals(intro hc;try simp only[hcs]at hc;try(exfalso;first|contradiction|omega))))
    (apply ret1; (· exact rfl); intro w' hS)
    rw [Nat.zero_add, List.nil_append] at hS
    refine ⟨a2, c2, ?_, hS.toNew memZ⟩
    show Value.slice a2 (0 + K.length) c2 = _
    rw [Nat.zero_add]
def anyR (K : List Plc) (x : Plc) : Bool := K.any fun y => decide (y.ring = x.ring) && decide (0 ≤ ringsM y.seq y.rep x.seq x.rep)
def takesP (K : List Plc) (x : Plc) : Bool := mayP x && !anyR K x
def keepP (tk : Bool) (x y : Plc) : Bool := !tk || decide (y.ring ≠ x.ring)
def lrnL (K : List Plc) (x : Plc) : List Plc := K.filter (keepP (takesP K x) x) ++ if takesP K x then [x] else []
def lrnP (K : List Plc) (x : Plc) : List Plc := isP (lrnL K x)
theorem any_take {α : Type} (l : List α) (f : α → Bool) {k : Nat} (h : k < l.length) : (l.take (k + 1)).any f = ((l.take k).any f || f (l[k]'h)) := by
  rw [List.take_add_one, List.getElem?_eq_getElem h, List.any_append]; simp
theorem filter_take {α : Type} (l : List α) (f : α → Bool) {k : Nat} (h : k < l.length) : (l.take (k + 1)).filter f = (l.take k).filter f ++ if f (l[k]'h) then [l[k]'h] else [] := by
  rw [List.take_add_one, List.getElem?_eq_getElem h, List.filter_append]
  congr 1
  show [l[k]].filter f = _
  rw [List.filter_cons]
  rfl
theorem plc_val (x : Plc) : x.val = .agg [.int .i64 x.ring, .int .i64 x.seq, .int .i64 x.rep, .int .i64 x.members].toArray := rfl
end Go.Proofs.Ytgblmkpfkcibiaa

namespace Go.Proofs.Ytgblmkpfkcibiaa
open Go.Hb
attribute [local irreducible] LR CW At Ev thn blk finK noG again CallsTo DW QL dnext TW DP gpost
set_option maxRecDepth 100000

theorem m64 (y x : Plc) (bx : Nat) (w : World) (h : Rd w (some ⟨bx, 0, none⟩) x.cells) : CallsTo Try.prog 64 [y.val, .pointer (some ⟨bx, 0, none⟩)] w fun v w' => v = .bool (decide (y.ring = x.ring)) ∧ Grew w w' := by
  refine go_in (n := 9) (St.rd1 h) Try.func64 rfl rfl ?_
  repeat'(first|refine kv' ?_|apply jJ|refine jE' ?_|refine jp' ?_|(apply jc;kernel_rfl)|refine kg' ?_|refine kG' ?_|refine kB' fun _=>?_|refine kA' fun _=>?_|refine kK' fun _=>?_|refine kU' ?_|((first|refine kR' ?_ ?_|refine kQ' ?_ ?_);all_goals(intro hc;try simp only[hcs]at hc;try(exfalso;first|contradiction|omega))))
  (apply ret1; (· exact rfl); intro w' hS)
  exact ⟨rfl, hS.toKeep⟩
theorem m88 (a : Option Addr) (c : Nat) (D : List Plc) (x : Plc) (bx : Nat) (w : World) (hk : Rd w a (pcs D)) (hb : Rd w (some ⟨bx, 0, none⟩) x.cells) (hm : D.length ≤ 140737488355328)
    (i0 : Nat) (h0 : i0 ≤ D.length) (hno : ∀ k, (hk : k < i0) → ¬ (D[k]'(by omega)).ring = x.ring) (hend : (h : i0 < D.length) → (D[i0]'h).ring = x.ring) :
    CallsTo Try.prog 88 [.slice a D.length c, .func (.func 64) #[] #[.pointer (some ⟨bx, 0, none⟩)]] w fun v w' => v = .int .i64 (if i0 < D.length then (i0 : Int) else -1) ∧ Grew w w' := by
  refine go_in (n := 19) ((St.rd1 hk).addRd hb (fun _ _ h => h)) Try.func88 rfl rfl ?_
  repeat'(first|refine kv' ?_|apply jJ|refine jE' ?_|refine jp' ?_|(apply jc;kernel_rfl)|refine kg' ?_|refine kG' ?_|refine kB' fun _=>?_|refine kA' fun _=>?_|refine kK' fun _=>?_|refine kU' ?_|((first|refine kR' ?_ ?_|refine kQ' ?_ ?_);all_goals(intro hc;try simp only[hcs]at hc;try(exfalso;first|contradiction|omega))))
  apply CW.loop [4, 5, 8, 9, 10, 11, 12, 13, 14, 15, 16, 17, 18] (fun i : Nat => i ≤ i0) (fun i => [(8, .int .i64 (i : Int))]) (fun _ => St w NoF [rdA (some ⟨bx, 0, none⟩) x.cells, rdA a (pcs D)]) (fun i => i0 - i)
  · exact fun w' hw' => ⟨0, by omega, ⟨rfl, trivial⟩, hw'⟩
  intro i g hi
  by_cases hlt : i < D.length
  · obtain ⟨ba, oa, rfl⟩ := hk.form (fun e => by have h1 := congrArg List.length e; rw [pcs_length, List.length_nil] at h1; omega)
    obtain ⟨y, hy⟩ : ∃ y, D[i] = y := ⟨_, rfl⟩
    have hly : D[i]? = some y := by rw [List.getElem?_eq_getElem hlt, hy]
    by_cases hx : y.ring = x.ring
    · have hie : i = i0 := by
        rcases Nat.lt_or_ge i i0 with h | h
        · exact absurd (by rw [hy]; exact hx) (hno i h)
        · omega
      subst hie
      rw [if_pos hlt]
      repeat'(first|(apply LR.ev; (· apply Ev.load_agg_at (cs := y.cells); (· exact rfl); (· exact rfl); (· intro w' hw'; refine pcs_cell (x := y) (hw'.rd_of memZ) hly ?_; (· simp; done))); (· exact rfl))|refine kv' ?_|apply jJ|refine jE' ?_|refine jp' ?_|(apply jc;kernel_rfl)|refine kg' ?_|refine kG' ?_|refine kB' fun _=>?_|refine kA' fun _=>?_|refine kK' fun _=>?_|refine kU' ?_|(apply idxX;(iterate 2 exact rfl);(iterate 2(first|omega|(dsimp only;omega)));exact rfl)|(apply LR.qcall_val (g := 64) (cap := [.pointer (some ⟨bx, 0, none⟩)]) (v := .bool true); (· exact rfl); (· exact rfl); (· intro w1 h1; have hq := CallsTo.q (m64 y x bx w1 (h1.rd_of memZ)) h1; rw [decide_eq_true hx] at hq; exact hq))|((first|refine kR' ?_ ?_|refine kQ' ?_ ?_);all_goals(intro hc;try simp only[hcs]at hc;try(exfalso;first|contradiction|omega))))
      (apply ret1; (· exact rfl); intro w' hS)
      exact ⟨rfl, hS.toKeep⟩
    · have hlt2 : i < i0 := by
        rcases Nat.lt_or_ge i i0 with h | h
        · exact h
        · have e : i = i0 := by omega
          subst e
          exact absurd (by rw [← hy]; exact hend hlt) hx
      repeat'(first|(apply LR.ev; (· apply Ev.load_agg_at (cs := y.cells); (· exact rfl); (· exact rfl); (· intro w' hw'; refine pcs_cell (x := y) (hw'.rd_of memZ) hly ?_; (· simp; done))); (· exact rfl))|refine kv' ?_|apply jJ|refine jE' ?_|refine jp' ?_|(apply jc;kernel_rfl)|refine kg' ?_|refine kG' ?_|refine kB' fun _=>?_|refine kA' fun _=>?_|refine kK' fun _=>?_|refine kU' ?_|(apply idxX;(iterate 2 exact rfl);(iterate 2(first|omega|(dsimp only;omega)));exact rfl)|(apply addX;(iterate 2 exact rfl);(iterate 2(first|omega|(dsimp only;omega)));exact rfl)|(apply LR.qcall_val (g := 64) (cap := [.pointer (some ⟨bx, 0, none⟩)]) (v := .bool false); (· exact rfl); (· exact rfl); (· intro w1 h1; have hq := CallsTo.q (m64 y x bx w1 (h1.rd_of memZ)) h1; rw [decide_eq_false hx] at hq; exact hq))|((first|refine kR' ?_ ?_|refine kQ' ?_ ?_);all_goals(intro hc;try simp only[hcs]at hc;try(exfalso;first|contradiction|omega))))
      refine At.again (i + 1) (by omega) ?_ ⟨rfl, trivial⟩ (fun w' hw' => hw') (by omega)
      (repeat (first | exact Out.refl _ _ | exact Out.mix | (apply Out.upd; (· exact rfl)) | (apply Out.updL; (· exact rfl)) | (apply Out.mixs; (· exact rfl))))
  · have hie : i = D.length := by omega
    subst hie
    rw [if_neg (by omega)]
    repeat'(first|refine kv' ?_|apply jJ|refine jE' ?_|refine jp' ?_|(apply jc;kernel_rfl)|refine kg' ?_|refine kG' ?_|refine kB' fun _=>?_|refine kA' fun _=>?_|refine kK' fun _=>?_|refine kU' ?_|((first|refine kR' ?_ ?_|refine kQ' ?_ ?_);all_goals(intro hc;try simp only[hcs]at hc;try(exfalso;first|contradiction|omega))))
    (apply ret1; (· exact rfl); intro w' hS)
    exact ⟨rfl, hS.toKeep⟩
def noP (D : List Plc) (r : Int) : List Plc := D.filter fun y => decide (y.ring ≠ r)
theorem noP_len (D : List Plc) (r : Int) : (noP D r).length ≤ D.length := List.length_filter_le _ _
theorem first_of (D : List Plc) (r : Int) : ∃ i0, i0 ≤ D.length ∧ (∀ k, k < i0 → ∀ y, D[k]? = some y → ¬ y.ring = r) ∧ (∀ y, D[i0]? = some y → y.ring = r) := by
  induction D with
  | nil => exact ⟨0, Nat.le_refl _, fun k hk => by omega, fun y hy => by cases hy⟩
  | cons z D ih =>
    by_cases hz : z.ring = r
    · exact ⟨0, Nat.zero_le _, fun k hk => by omega, fun y hy => by simp at hy; rw [← hy]; exact hz⟩
    · obtain ⟨i, h1, h2, h3⟩ := ih
      refine ⟨i + 1, by simp; omega, fun k hk y hy => ?_, fun y hy => h3 y (by simpa using hy)⟩
      cases k with
      | zero => simp at hy; rw [← hy]; exact hz
      | succ k => exact h2 k (by omega) y (by simpa using hy)
structure DelI (D : List Plc) (r : Int) (j i : Nat) (D' : List Plc) : Prop where
  ij : i < j
  jl : j ≤ D.length
  len : D'.length = D.length
  pre : D'.take i = noP (D.take j) r
  suf : ∀ k, j ≤ k → D'[k]? = D[k]?
theorem DelI.skip {D D' : List Plc} {r : Int} {j i : Nat} (h : DelI D r j i D') (hj : j < D.length) (hx : (D[j]'hj).ring = r) : DelI D r (j + 1) i D' := by
  refine ⟨by have := h.ij; omega, hj, h.len, ?_, fun k hk => h.suf k (by omega)⟩
  rw [h.pre]
  unfold noP
  rw [filter_take D _ hj, if_neg (by simp [hx]), List.append_nil]
theorem DelI.keep {D D' : List Plc} {r : Int} {j i : Nat} (h : DelI D r j i D') (hj : j < D.length) (hx : ¬ (D[j]'hj).ring = r) : DelI D r (j + 1) (i + 1) (D'.set i (D[j]'hj)) := by
  have hij := h.ij
  have hl := h.len
  refine ⟨by omega, hj, by rw [List.length_set]; exact hl, ?_, fun k hk => ?_⟩
  · rw [List.take_add_one, List.getElem?_set_self (by omega), List.take_set_of_le (Nat.le_refl _), h.pre]
    unfold noP
    rw [filter_take D _ hj, if_pos (by simp [hx])]
    rfl
  · rw [List.getElem?_set_ne (by omega)]
    exact h.suf k (by omega)
set_option maxHeartbeats 2000000 in
theorem m63 (a : Option Addr) (c : Nat) (D : List Plc) (x : Plc) (bx : Nat) (w : World) (h : (pN a D.length c D).holds w) (hb : Rd w (some ⟨bx, 0, none⟩) x.cells) (hd : ∀ k, rdFoot (some ⟨bx, 0, none⟩) x.cells k → ¬ (pN a D.length c D).foot k) (hm : D.length ≤ 140737488355328) :
    CallsTo Try.prog 63 [.slice a D.length c, .func (.func 64) #[] #[.pointer (some ⟨bx, 0, none⟩)]] w fun v w' => v = .slice a (noP D x.ring).length c ∧ Step (pN a D.length c D) (pN a (noP D x.ring).length c (noP D x.ring)) w w' := by
  have hown : w.ownsRow 0 44 4 (.slice a D.length c) D.length (pcs D) := h
  have hcap := ownsRow_cap hown
  have hS0 : St w (pN a D.length c D).foot [rdA (some ⟨bx, 0, none⟩) x.cells, pN a D.length c D] w := (St.one h (fun k hk => (World.ownsRow.lt h k hk).2) (osl.dep _ _ _ _ _)).addRd hb hd
  generalize hF : (pN a D.length c D).foot = F at *
  refine go_in (n := 42) hS0 Try.func63 rfl rfl ?_
  obtain ⟨i0, hi0, hno, hend⟩ := first_of D x.ring
  have h88 : ∀ w1, St w F [rdA (some ⟨bx, 0, none⟩) x.cells, pN a D.length c D] w1 → CallsTo Try.prog 88 [.slice a D.length c, .func (.func 64) #[] #[.pointer (some ⟨bx, 0, none⟩)]] w1 fun v w' => v = .int .i64 (if i0 < D.length then (i0 : Int) else -1) ∧ St w F [rdA (some ⟨bx, 0, none⟩) x.cells, pN a D.length c D] w' := fun w1 h1 =>
    CallsTo.q (m88 a c D x bx w1 (h1.rd_of_own memZ) (h1.rd_of memZ) hm i0 hi0 (fun k hk => hno k hk _ (List.getElem?_eq_getElem (by omega))) (fun hh => hend _ (List.getElem?_eq_getElem hh))) h1
  by_cases hlt : i0 < D.length
  rotate_left
  · rw [if_neg hlt] at h88
    have hnn : noP D x.ring = D := by
      unfold noP
      rw [List.filter_eq_self]
      intro y hy
      obtain ⟨k, hk, rfl⟩ := List.getElem_of_mem hy
      have := hno k (by omega) _ (List.getElem?_eq_getElem hk)
      simpa using this
    rw [hnn]
    repeat'(first|refine kv' ?_|apply jJ|refine jE' ?_|refine jp' ?_|(apply jc;kernel_rfl)|refine kg' ?_|refine kG' ?_|refine kB' fun _=>?_|refine kA' fun _=>?_|refine kK' fun _=>?_|refine kU' ?_|(apply kq; (· exact rfl); (· intro w1 h1; exact h88 w1 h1))|((first|refine kR' ?_ ?_|refine kQ' ?_ ?_);all_goals(intro hc;try simp only[hcs]at hc;try(exfalso;first|contradiction|omega))))
    (apply ret1; (· exact rfl); intro w' hS)
    subst hF
    exact ⟨rfl, (hS.sub (L' := [pN a D.length c D]) subZ).step rfl⟩
  rw [if_pos hlt] at h88
  obtain ⟨ba, oa, rfl⟩ := (ownsRow_rd hown).form (fun e => by have h1 := congrArg List.length e; rw [pcs_length, List.length_nil] at h1; omega)
  have hI0 : DelI D x.ring (i0 + 1) i0 D := by
    refine ⟨by omega, by omega, rfl, ?_, fun k hk => rfl⟩
    unfold noP
    rw [filter_take D _ hlt, if_neg (by have := hend _ (List.getElem?_eq_getElem hlt); simp [this]), List.append_nil, eq_comm, List.filter_eq_self]
    intro y hy
    obtain ⟨k, hk, rfl⟩ := List.getElem_of_mem hy
    rw [List.length_take] at hk
    rw [List.getElem_take]
    have := hno k (by omega) _ (List.getElem?_eq_getElem (by omega))
    simpa using this
  repeat'(first|refine kv' ?_|apply jJ|refine jE' ?_|refine jp' ?_|(apply jc;kernel_rfl)|refine kg' ?_|refine kG' ?_|refine kB' fun _=>?_|refine kA' fun _=>?_|refine kK' fun _=>?_|refine kU' ?_|(apply addX;(iterate 2 exact rfl);(iterate 2(first|omega|(dsimp only;omega)));exact rfl)|(apply kq; (· exact rfl); (· intro w1 h1; exact h88 w1 h1))|((first|refine kR' ?_ ?_|refine kQ' ?_ ?_);all_goals(intro hc;try simp only[hcs]at hc;try(exfalso;first|contradiction|omega))))
  apply CW.loop [5, 6, 7, 16, 17, 18, 19, 20, 21, 22, 23, 24, 25, 26, 27, 28, 29, 30, 31, 32, 33, 34, 35] (fun s : Nat × Nat × List Plc => DelI D x.ring s.1 s.2.1 s.2.2) (fun s => [(5, .int .i64 (s.2.1 : Int)), (6, .int .i64 (s.1 : Int))])
    (fun s => St w F [rdA (some ⟨bx, 0, none⟩) x.cells, pN (some ⟨ba, oa, none⟩) D.length c s.2.2]) (fun s => D.length - s.1)
  · exact fun w' hw' => ⟨(i0 + 1, i0, D), hI0, ⟨rfl, rfl, trivial⟩, hw'⟩
  rintro ⟨j, i, D'⟩ g hI
  simp only at hI ⊢
  have hij := hI.ij
  have hjl := hI.jl
  have hDl := hI.len
  by_cases hlt2 : j < D.length
  · obtain ⟨y, hy⟩ : ∃ y, D[j] = y := ⟨_, rfl⟩
    have hly : D'[j]? = some y := by rw [hI.suf j (Nat.le_refl _), List.getElem?_eq_getElem hlt2, hy]
    have hskip := hI.skip hlt2
    have hkeep := hI.keep hlt2
    rw [hy] at hskip hkeep
    by_cases hx : y.ring = x.ring
    · have hskip := hskip hx
      repeat'(first|(apply LR.ev; (· apply Ev.load_agg_at (cs := [Value.int .i64 y.ring, .int .i64 y.seq, .int .i64 y.rep, .int .i64 y.members]); (· exact rfl); (· exact rfl); (· intro w' hw'; refine pcs_cell (x := y) (hw'.rd_of_own memZ) hly ?_; (· simp; done))); (· exact rfl))|refine kv' ?_|apply jJ|refine jE' ?_|refine jp' ?_|(apply jc;kernel_rfl)|refine kg' ?_|refine kG' ?_|refine kB' fun _=>?_|refine kA' fun _=>?_|refine kK' fun _=>?_|refine kU' ?_|(apply idxX;(iterate 2 exact rfl);(iterate 2(first|omega|(dsimp only;omega)));exact rfl)|(apply addX;(iterate 2 exact rfl);(iterate 2(first|omega|(dsimp only;omega)));exact rfl)|(apply LR.qcall_val (g := 64) (cap := [.pointer (some ⟨bx, 0, none⟩)]) (v := .bool true); (· exact rfl); (· exact rfl); (· intro w1 h1; have hq := CallsTo.q (m64 y x bx w1 (h1.rd_of memZ)) h1; rw [decide_eq_true hx] at hq; exact hq))|((first|refine kR' ?_ ?_|refine kQ' ?_ ?_);all_goals(intro hc;try simp only[hcs]at hc;try(exfalso;first|contradiction|omega))))
      refine At.again (j + 1, i, D') hskip ?_ ⟨rfl, rfl, trivial⟩ (fun w' hw' => hw'.sub subZ) (by show D.length - (j + 1) < D.length - j; omega)
      (repeat (first | exact Out.refl _ _ | exact Out.mix | (apply Out.upd; (· exact rfl)) | (apply Out.updL; (· exact rfl)) | (apply Out.mixs; (· exact rfl))))
    · have hkeep := hkeep hx
      repeat'(first|(apply LR.ev; (· apply Ev.load_agg_at (cs := [Value.int .i64 y.ring, .int .i64 y.seq, .int .i64 y.rep, .int .i64 y.members]); (· exact rfl); (· exact rfl); (· intro w' hw'; refine pcs_cell (x := y) (hw'.rd_of_own memZ) hly ?_; (· simp; done))); (· exact rfl))|refine kv' ?_|apply jJ|refine jE' ?_|refine jp' ?_|(apply jc;kernel_rfl)|refine kg' ?_|refine kG' ?_|refine kB' fun _=>?_|refine kA' fun _=>?_|refine kK' fun _=>?_|refine kU' ?_|(apply idxX;(iterate 2 exact rfl);(iterate 2(first|omega|(dsimp only;omega)));exact rfl)|(apply addX;(iterate 2 exact rfl);(iterate 2(first|omega|(dsimp only;omega)));exact rfl)|(apply LR.qcall_val (g := 64) (cap := [.pointer (some ⟨bx, 0, none⟩)]) (v := .bool false); (· exact rfl); (· exact rfl); (· intro w1 h1; have hq := CallsTo.q (m64 y x bx w1 (h1.rd_of memZ)) h1; rw [decide_eq_false hx] at hq; exact hq))|((first|refine kR' ?_ ?_|refine kQ' ?_ ?_);all_goals(intro hc;try simp only[hcs]at hc;try(exfalso;first|contradiction|omega))))
      refine LR.store_obj (v := y.val) rfl rfl (Sel.tail _ (Sel.tail _ (Sel.head _ _ _))) rfl (put_plc (l := D') y (k := i) (by omega) (by omega)) (osl.dep _ _ _ _ _) ?_
      repeat'(first|refine kv' ?_|apply jJ|refine jE' ?_|refine jp' ?_|(apply jc;kernel_rfl)|refine kg' ?_|refine kG' ?_|refine kB' fun _=>?_|refine kA' fun _=>?_|refine kK' fun _=>?_|refine kU' ?_|(apply addX;(iterate 2 exact rfl);(iterate 2(first|omega|(dsimp only;omega)));exact rfl)|((first|refine kR' ?_ ?_|refine kQ' ?_ ?_);all_goals(intro hc;try simp only[hcs]at hc;try(exfalso;first|contradiction|omega))))
      refine At.again (j + 1, i + 1, D'.set i y) hkeep ?_ ⟨?_, rfl, trivial⟩ (fun w' hw' => hw'.sub subZ) (by show D.length - (j + 1) < D.length - j; omega)
      · (repeat (first | exact Out.refl _ _ | exact Out.mix | (apply Out.upd; (· exact rfl)) | (apply Out.updL; (· exact rfl)) | (apply Out.mixs; (· exact rfl))))
      · exact congrArg (Value.int .i64) (show (i : Int) + 1 = ((i + 1 : Nat) : Int) by omega)
  have hje : j = D.length := by omega
  subst hje
  have hpre := hI.pre
  rw [List.take_length] at hpre
  have hil : i = (noP D x.ring).length := by
    have := congrArg List.length hpre
    rw [List.length_take] at this
    omega
  have hsl : Value.slice (subA (some ⟨ba, oa, none⟩) c i 4) (D.length - i) (c - i) = Value.slice (subA (some ⟨ba, oa, none⟩) c i 4) (D.length - i) (c - i) := rfl
  repeat'(first|refine kv' ?_|apply jJ|refine jE' ?_|refine jp' ?_|(apply jc;kernel_rfl)|refine kg' ?_|refine kG' ?_|refine kB' fun _=>?_|refine kA' fun _=>?_|refine kK' fun _=>?_|refine kU' ?_|(apply LR.ev; (· apply Ev.slice_lo; (· exact rfl); (· exact rfl); (· omega); (· omega)); (· exact rfl))|((first|refine kR' ?_ ?_|refine kQ' ?_ ?_);all_goals(intro hc;try simp only[hcs]at hc;try(exfalso;first|contradiction|omega))))
  refine LR.clearN (E := 44) (sz := 4) (zs := [.int .i64 0, .int .i64 0, .int .i64 0, .int .i64 0]) (n := D.length) (c := c) (j := i) (a := some ⟨ba, oa, none⟩) (xs := pcs D') rfl rfl rfl (Sel.tail _ (Sel.head _ _ _)) (by omega) ?_
  repeat'(first|refine kv' ?_|apply jJ|refine jE' ?_|refine jp' ?_|(apply jc;kernel_rfl)|refine kg' ?_|refine kG' ?_|refine kB' fun _=>?_|refine kA' fun _=>?_|refine kK' fun _=>?_|refine kU' ?_|(apply LR.ev; (· apply Ev.slice_hi; (· exact rfl); (· exact rfl); (· omega); (· omega)); (· exact rfl))|((first|refine kR' ?_ ?_|refine kQ' ?_ ?_);all_goals(intro hc;try simp only[hcs]at hc;try(exfalso;first|contradiction|omega))))
  (apply ret1; (· exact rfl); intro w' hS)
  have h2 := St.osl_cut (k := i) hS (Sel.tail _ (Sel.head _ _ _)) (by omega)
  have h3 : ((pcs D').take (i * 4) ++ (List.replicate (D.length - i) [Value.int .i64 0, .int .i64 0, .int .i64 0, .int .i64 0]).flatten).take (i * 4) = pcs (noP D x.ring) := by
    rw [pcs_take D' i (by omega), hpre, List.take_append_of_le_length (by rw [pcs_length]; omega), List.take_of_length_le (by rw [pcs_length]; omega)]
  rw [h3] at h2
  subst hF
  rw [← hil]
  refine ⟨?_, (h2.sub (L' := [pN (some ⟨ba, oa, none⟩) i c (noP D x.ring)]) subZ).step rfl⟩
  show Value.slice (subA (some ⟨ba, oa, none⟩) c 0 4) (i : Int).toNat c = _
  rw [subA0]
  rfl
end Go.Proofs.Ytgblmkpfkcibiaa

namespace Go.Proofs.Ytgblmkpfkcibiaa
open Go.Hb
attribute [local irreducible] LR CW At Ev thn blk finK noG again CallsTo DW QL dnext TW DP gpost
set_option maxRecDepth 100000

theorem lrn_yes {K : List Plc} {x : Plc} (h : takesP K x = true) : lrnL K x = noP K x.ring ++ [x] := by
  unfold lrnL noP
  rw [h]
  congr 1
theorem lrn_no {K : List Plc} {x : Plc} (h : takesP K x = false) : lrnL K x = K := by
  unfold lrnL
  rw [h, if_neg (by simp), List.append_nil, List.filter_eq_self]
  intro y _
  rfl
theorem lrnL_len (K : List Plc) (x : Plc) : (lrnL K x).length ≤ K.length + 1 := by
  cases h : takesP K x with
  | true => rw [lrn_yes h, List.length_append]; have := noP_len K x.ring; simp; omega
  | false => rw [lrn_no h]; omega
set_option maxHeartbeats 2000000 in
theorem m27 {N : Nat} (hN : SortTo N) (K : List Plc) (a : Option Addr) (c : Nat) (x : Plc) (w : World) (hk : Rd w a (pcs K)) (hz : a = none → c = 0) (hm : (K.length + 1) * 32 ≤ 140737488355328) (hKN : K.length + 1 ≤ N) (hxm : i64P x.members) :
    CallsTo Try.prog 27 [.slice a K.length c, x.val] w fun v w' => plR w w' v (lrnP K x) := by
  refine go_in (n := 66) (St.rd1 hk) Try.func27 rfl rfl ?_
  rw [plc_val]
  repeat'(first|(refine kB' fun bx => ?_)|refine kv' ?_|apply jJ|refine jE' ?_|refine jp' ?_|(apply jc;kernel_rfl)|refine kg' ?_|refine kG' ?_|refine kB' fun _=>?_|refine kA' fun _=>?_|refine kK' fun _=>?_|refine kU' ?_|(apply kq; (· exact rfl); (· intro w1 h1; first | exact CallsTo.q (show CallsTo Try.prog 60 [.agg [.int .i64 x.seq, .int .i64 x.rep].toArray] w1 _ from c81 x.seq x.rep w1) h1 | exact CallsTo.q (m61 x.members w1 hxm) h1))|((first|refine kR' ?_ ?_|refine kQ' ?_ ?_);all_goals(intro hc;try simp only[hcs]at hc;try(exfalso;first|contradiction|omega))))
  all_goals (
    apply CW.loop [5, 7, 36, 37, 38, 39, 40, 41, 42, 43, 44, 45, 46, 47, 48, 49, 50, 51, 52, 53] (fun i : Nat => i ≤ K.length) (fun i => [(5, .bool (mayP x && !anyR (K.take i) x)), (36, .int .i64 (i : Int))])
      (fun _ => St w NoF [.own bx (.cells [Value.int .i64 x.ring, .int .i64 x.seq, .int .i64 x.rep, .int .i64 x.members].toArray 44 (0, 0)), rdA a (pcs K)]) (fun i => K.length - i)
    · refine fun w' hw' => ⟨0, by omega, ⟨?_, rfl, trivial⟩, hw'⟩
      refine congrArg Value.bool ?_
      simp only [List.take_zero]
      rw [show anyR [] x = false from rfl]
      unfold mayP
      clear hw' hk
      first | (simp_all; done) | (simp_all; omega)
    intro i g hi
    by_cases hlt : i < K.length
    · obtain ⟨ba, oa, rfl⟩ := hk.form (fun e => by have h1 := congrArg List.length e; rw [pcs_length, List.length_nil] at h1; omega)
      obtain ⟨y, hy⟩ : ∃ y, K[i] = y := ⟨_, rfl⟩
      have hly : K[i]? = some y := by rw [List.getElem?_eq_getElem hlt, hy]
      have hat : anyR (K.take (i + 1)) x = (anyR (K.take i) x || (decide (y.ring = x.ring) && decide (0 ≤ ringsM y.seq y.rep x.seq x.rep))) := by
        unfold anyR
        rw [any_take K _ hlt, hy]
      generalize anyR (K.take i) x = tk at hat ⊢
      repeat'(first|(apply LR.ev; (· apply Ev.load_agg_at (cs := [Value.int .i64 y.ring, .int .i64 y.seq, .int .i64 y.rep, .int .i64 y.members]); (· exact rfl); (· exact rfl); (· intro w' hw'; refine pcs_cell (x := y) (hw'.rd_of memZ) hly ?_; (· simp; done))); (· exact rfl))|refine kv' ?_|apply jJ|refine jE' ?_|refine jp' ?_|(apply jc;kernel_rfl)|refine kg' ?_|refine kG' ?_|refine kB' fun _=>?_|refine kA' fun _=>?_|refine kK' fun _=>?_|refine kU' ?_|(apply idxX;(iterate 2 exact rfl);(iterate 2(first|omega|(dsimp only;omega)));exact rfl)|(apply kq; (· exact rfl); (· intro w1 h1; exact CallsTo.q (m32 y.seq y.rep x.seq x.rep w1) h1))|(apply addX;(iterate 2 exact rfl);(iterate 2(first|omega|(dsimp only;omega)));exact rfl)|((first|refine kR' ?_ ?_|refine kQ' ?_ ?_);all_goals(intro hc;try simp only[hcs]at hc;try(exfalso;first|contradiction|omega))))
      all_goals (
        refine At.again (i + 1) (by omega) ?_ ⟨?_, rfl, trivial⟩ (fun w' hw' => hw'.sub subZ) (by omega)
        · (repeat (first | exact Out.refl _ _ | exact Out.mix | (apply Out.upd; (· exact rfl)) | (apply Out.updL; (· exact rfl)) | (apply Out.mixs; (· exact rfl))))
        · rw [hat]
          first
            | (have h1 : 0 ≤ ringsM y.seq y.rep x.seq x.rep := by assumption
               rw [decide_eq_true h1, decide_eq_true (show y.ring = x.ring by assumption), Bool.and_self, Bool.or_true, Bool.not_true, Bool.and_false]
               rfl)
            | (rw [decide_eq_false (show ¬ y.ring = x.ring by assumption), Bool.false_and, Bool.or_false]; rfl)
            | (rw [decide_eq_false (show ¬ 0 ≤ ringsM y.seq y.rep x.seq x.rep by omega), Bool.and_false, Bool.or_false]; rfl))
    have hie : i = K.length := by omega
    subst hie
    rw [List.take_length]
    show CW _ _ _ _ (updL (mix _ _ _) [(5, Value.bool (takesP K x)), (36, _)]) _
    have hll := lrnL_len K x
    repeat'(first|refine kv' ?_|apply jJ|refine jE' ?_|refine jp' ?_|(apply jc;kernel_rfl)|refine kg' ?_|refine kG' ?_|refine kB' fun _=>?_|refine kA' fun _=>?_|refine kK' fun _=>?_|refine kU' ?_|((first|refine kR' ?_ ?_|refine kQ' ?_ ?_);all_goals(intro hc;try simp only[hcs]at hc;try(exfalso;first|contradiction|omega))))
    apply LR.call
    · exact rfl
    intro w1 h1
    refine (m62 K a c w1 (h1.rd_of memZ) hz (by omega)).mono ?_
    rintro v w2 ⟨a2, c2, rfl, hn⟩
    refine LR.back (h1.newSl hn) ?_
    clear hn h1
    cases htk : takesP K x with
    | false =>
      have hle := lrn_no htk
      unfold lrnP
      rw [hle]
      repeat'(first|refine kv' ?_|apply jJ|refine jE' ?_|refine jp' ?_|(apply jc;kernel_rfl)|refine kg' ?_|refine kG' ?_|refine kB' fun _=>?_|refine kA' fun _=>?_|refine kK' fun _=>?_|refine kU' ?_|((first|refine kR' ?_ ?_|refine kQ' ?_ ?_);all_goals(intro hc;try simp only[hcs]at hc;try(exfalso;first|contradiction|omega))))
      apply LR.call
      · exact rfl
      intro w1 h1
      refine CallsTo.mono (show CallsTo Try.prog 56 [.slice a2 K.length c2] w1 _ from hN a2 c2 K w1 (h1.holds (pN a2 K.length c2 K) memZ) (by omega)) ?_
      rintro v w2 ⟨rfl, st⟩
      refine LR.back (h1.did selZ rfl st (osl.dep _ _ _ _ _)) ?_
      clear st h1
      repeat'(first|refine kv' ?_|apply jJ|refine jE' ?_|refine jp' ?_|(apply jc;kernel_rfl)|refine kg' ?_|refine kG' ?_|refine kB' fun _=>?_|refine kA' fun _=>?_|refine kK' fun _=>?_|refine kU' ?_|((first|refine kR' ?_ ?_|refine kQ' ?_ ?_);all_goals(intro hc;try simp only[hcs]at hc;try(exfalso;first|contradiction|omega))))
      (apply ret1; (· exact rfl); intro w' hS)
      have h9 : pN a2 K.length c2 (isP K) = osl (.slice a2 (isP K).length c2) 44 4 (isP K).length (pcs (isP K)) := by rw [isP_len]
      rw [h9] at hS
      refine ⟨a2, c2, ?_, hS.toNew memZ⟩
      rw [isP_len]
      rfl
    | true =>
      have hle := lrn_yes htk
      unfold lrnP
      rw [hle] at hll ⊢
      rw [List.length_append] at hll
      have hnl := noP_len K x.ring
      repeat'(first|(apply LR.ev (v := Value.func (.func 64) #[] #[.pointer (some ⟨bx, 0, none⟩)]); (· exact Ev.makeFunc (xs := []) (ys := [.tmp 3])); (· exact rfl))|refine kv' ?_|apply jJ|refine jE' ?_|refine jp' ?_|(apply jc;kernel_rfl)|refine kg' ?_|refine kG' ?_|refine kB' fun _=>?_|refine kA' fun _=>?_|refine kK' fun _=>?_|refine kU' ?_|((first|refine kR' ?_ ?_|refine kQ' ?_ ?_);all_goals(intro hc;try simp only[hcs]at hc;try(exfalso;first|contradiction|omega))))
      apply LR.call
      · exact rfl
      intro w1 h1
      have hap := fun z => St.apart (x := pN a2 K.length c2 K) (y := .own bx (.cells [Value.int .i64 x.ring, .int .i64 x.seq, .int .i64 x.rep, .int .i64 x.members].toArray 44 (0, 0))) (h1.sub (L' := [pN a2 K.length c2 K, .own bx (.cells [Value.int .i64 x.ring, .int .i64 x.seq, .int .i64 x.rep, .int .i64 x.members].toArray 44 (0, 0))]) subZ) memZ rfl z
      refine CallsTo.mono (show CallsTo Try.prog 63 [.slice a2 K.length c2, .func (.func 64) #[] #[.pointer (some ⟨bx, 0, none⟩)]] w1 _ from m63 a2 c2 K x bx w1 (h1.holds (pN a2 K.length c2 K) memZ) (h1.rd_of_blk memZ) (fun z hz hf => by
        obtain ⟨_, ad, e, hz'⟩ := hz
        cases e
        exact hap z hf hz') (by omega)) ?_
      rintro v w2 ⟨rfl, st⟩
      refine LR.back (h1.did selZ rfl st (osl.dep _ _ _ _ _)) ?_
      clear st h1 hap
      generalize noP K x.ring = O at hll hnl ⊢
      repeat'(first|(apply Go.Hb.kK;(iterate 4 exact rfl);intro bs)|refine kv' ?_|apply jJ|refine jE' ?_|refine jp' ?_|(apply jc;kernel_rfl)|refine kg' ?_|refine kG' ?_|refine kB' fun _=>?_|refine kA' fun _=>?_|refine kK' fun _=>?_|refine kU' ?_|(apply LR.append (xs := pcs O) (news := x.cells) (m := 1); (· exact rfl); (· exact rfl); (· intro a' c'; (repeat (first | exact sH _ _ _ | apply sT))); (· exact fun w' hw' => hw'.rd_of_blk (mH _ _)); (· exact fun hx => by cases hx); (· exact rfl); (· exact rfl); (· omega); (· unfold maxLen; omega); (· exact rfl); (intro a3 c3))|((first|refine kR' ?_ ?_|refine kQ' ?_ ?_);all_goals(intro hc;try simp only[hcs]at hc;try(exfalso;first|contradiction|omega))))
      apply LR.call
      · exact rfl
      intro w1 h1
      have hsn : osl (.slice a3 (O.length + 1) c3) 44 4 (O.length + 1) (pcs O ++ x.cells) = pN a3 (O ++ [x]).length c3 (O ++ [x]) := pN_snoc.symm
      rw [hsn] at h1
      have hxl : (O ++ [x]).length = O.length + 1 := by simp
      rw [← hxl]
      refine CallsTo.mono (show CallsTo Try.prog 56 [.slice a3 (O ++ [x]).length c3] w1 _ from hN a3 c3 (O ++ [x]) w1 (h1.holds (pN a3 (O ++ [x]).length c3 (O ++ [x])) memZ) (by omega)) ?_
      rintro v w2 ⟨rfl, st⟩
      refine LR.back (h1.did selZ rfl st (osl.dep _ _ _ _ _)) ?_
      clear st h1
      repeat'(first|refine kv' ?_|apply jJ|refine jE' ?_|refine jp' ?_|(apply jc;kernel_rfl)|refine kg' ?_|refine kG' ?_|refine kB' fun _=>?_|refine kA' fun _=>?_|refine kK' fun _=>?_|refine kU' ?_|((first|refine kR' ?_ ?_|refine kQ' ?_ ?_);all_goals(intro hc;try simp only[hcs]at hc;try(exfalso;first|contradiction|omega))))
      (apply ret1; (· exact rfl); intro w' hS)
      have h9 : pN a3 (O ++ [x]).length c3 (isP (O ++ [x])) = osl (.slice a3 (isP (O ++ [x])).length c3) 44 4 (isP (O ++ [x])).length (pcs (isP (O ++ [x]))) := by rw [isP_len]
      rw [h9] at hS
      refine ⟨a3, c3, ?_, hS.toNew memZ⟩
      rw [isP_len]
      rfl)
end Go.Proofs.Ytgblmkpfkcibiaa
