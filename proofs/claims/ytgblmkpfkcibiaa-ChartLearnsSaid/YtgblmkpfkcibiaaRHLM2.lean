/-
  Same, SamePlaces, the chapter's messages, awake.
-/
import Derived.Test.YtgblmkpfkcibiaaRHLM1
import Derived.DeepKeys5
import Derived.WideKeyRuns
import Derived.Deep.AppendSrc

set_option linter.unusedSimpArgs false
set_option linter.unusedVariables false
namespace Go.Proofs.Ytgblmkpfkcibiaa
open Go.Hb
attribute [local irreducible] LR CW At Ev thn blk finK noG again CallsTo DW QL dnext TW DP
set_option maxRecDepth 100000

structure Cst where
  k : Nat
  a : Option Addr
  c : Nat
abbrev ilK (a : Option Addr) (c : Nat) (l : List Int) : Asrt := osl (.slice a l.length c) 3 1 l.length (iv l)
theorem q61 (c : Int) (w : World) (hc : -9223372036854775808 ≤ c ∧ c ≤ 9223372036854775807) : CallsTo Try.prog 87 [.int .i64 c] w fun v w' => v = .int .i64 (if crewOk c then 0 else 2) ∧ Grew w w' := by
  refine go_in (n := 6) (St.refl _ NoF) Try.func87 rfl rfl ?_
  have hk := andNot_ok hc.1 hc.2
  repeat'(first|refine kv' ?_|apply jJ|refine jE' ?_|refine jp' ?_|(apply jc;kernel_rfl)|refine kg' ?_|refine kG' ?_|refine kB' fun _=>?_|refine kA' fun _=>?_|refine kK' fun _=>?_|refine kU' ?_|((first|refine kR' ?_ ?_|refine kQ' ?_ ?_);all_goals(intro hc;try simp only[hcs]at hc;try(exfalso;first|contradiction|omega))))
  all_goals (
    (apply ret1; (· exact rfl); intro w' hS)
    refine ⟨congrArg (Value.int .i64) ?_, hS.toKeep⟩
    first
      | (rw [if_pos (hk.1 (by assumption))])
      | (rw [if_neg (fun h => absurd (hk.2 h) (by assumption))]))
theorem q23 (c n : Int) (w : World) : CallsTo Try.prog 52 [.int .i64 c, .int .i64 n] w fun v w' => v = .bool (hasC c n) ∧ Grew w w' := by
  refine go_in (n := 18) (St.refl _ NoF) Try.func52 rfl rfl ?_
  by_cases h : 0 < n ∧ n ≤ 8
  · obtain ⟨k, rfl⟩ : ∃ k : Nat, n = (k : Int) := ⟨n.toNat, by omega⟩
    have hk := shr_and c k (by omega)
    have hm : min (k : Int).toNat IntKind.i64.bits = k := by show min _ 64 = _; omega
    rw [← hm] at hk
    repeat'(first|refine kv' ?_|apply jJ|refine jE' ?_|refine jp' ?_|(apply jc;kernel_rfl)|refine kg' ?_|refine kG' ?_|refine kB' fun _=>?_|refine kA' fun _=>?_|refine kK' fun _=>?_|refine kU' ?_|((first|refine kR' ?_ ?_|refine kQ' ?_ ?_);all_goals(intro hc;try simp only[hcs]at hc;try(exfalso;first|contradiction|omega))))
    all_goals (
      (apply ret1; (· exact rfl); intro w' hS)
      refine ⟨congrArg Value.bool ?_, hS.toKeep⟩
      unfold hasC
      rw [decide_eq_true h, Bool.true_and]
      rw [hm] at hk ⊢
      rw [Int.toNat_natCast]
      cases hx : tb c k with
      | true => rw [decide_eq_false (fun e => by rw [hk.1 e] at hx; cases hx)]; rfl
      | false => rw [decide_eq_true (hk.2 hx)]; rfl)
  · repeat'(first|refine kv' ?_|apply jJ|refine jE' ?_|refine jp' ?_|(apply jc;kernel_rfl)|refine kg' ?_|refine kG' ?_|refine kB' fun _=>?_|refine kA' fun _=>?_|refine kK' fun _=>?_|refine kU' ?_|((first|refine kR' ?_ ?_|refine kQ' ?_ ?_);all_goals(intro hc;try simp only[hcs]at hc;try(exfalso;first|contradiction|omega))))
    all_goals (
      (apply ret1; (· exact rfl); intro w' hS)
      refine ⟨congrArg Value.bool ?_, hS.toKeep⟩
      unfold hasC
      rw [decide_eq_false h]
      rfl)
theorem q85 (k : Nat) (w : World) (hk : k ≤ 8) : CallsTo Try.prog 81 [.int .i64 (k : Int)] w fun v w' => v = .int .i64 (2 ^ k) ∧ Grew w w' := by
  refine go_in (n := 13) (St.refl _ NoF) Try.func81 rfl rfl ?_
  repeat'(first|refine kv' ?_|apply jJ|refine jE' ?_|refine jp' ?_|(apply jc;kernel_rfl)|refine kg' ?_|refine kG' ?_|refine kB' fun _=>?_|refine kA' fun _=>?_|refine kK' fun _=>?_|refine kU' ?_|((first|refine kR' ?_ ?_|refine kQ' ?_ ?_);all_goals(intro hc;try simp only[hcs]at hc;try(exfalso;first|contradiction|omega))))
  apply CW.loop [3, 4, 5, 6, 7, 8, 9, 10, 11] (fun i : Nat => i ≤ k) (fun i : Nat => [(3, Value.int .i64 (2 ^ i)), (4, Value.int .i64 (i : Int))]) (fun _ => St w NoF []) (fun i => k - i)
  · exact fun w' hw' => ⟨0, by omega, ⟨rfl, rfl, trivial⟩, hw'⟩
  intro i g hi
  have hp : ∀ j : Nat, j ≤ 8 → (2 : Int) ^ j ≤ 256 := fun j hj => by
    have := low9 hj
    rcases this with rfl | rfl | rfl | rfl | rfl | rfl | rfl | rfl | rfl <;> decide
  have hp0 : (0 : Int) < 2 ^ i := Int.pow_pos (by decide)
  have hpi := hp i (by omega)
  by_cases hlt : i < k
  · repeat'(first|refine kv' ?_|apply jJ|refine jE' ?_|refine jp' ?_|(apply jc;kernel_rfl)|refine kg' ?_|refine kG' ?_|refine kB' fun _=>?_|refine kA' fun _=>?_|refine kK' fun _=>?_|refine kU' ?_|(apply mulX;(iterate 2 exact rfl);(iterate 2(first|omega|(dsimp only;omega)));exact rfl)|(apply addX;(iterate 2 exact rfl);(iterate 2(first|omega|(dsimp only;omega)));exact rfl)|((first|refine kR' ?_ ?_|refine kQ' ?_ ?_);all_goals(intro hc;try simp only[hcs]at hc;try(exfalso;first|contradiction|omega))))
    refine At.again (i + 1) (by omega) ?_ ⟨?_, rfl, trivial⟩ (fun w' hw' => hw') (by omega)
    · (repeat (first | exact Out.refl _ _ | exact Out.mix | (apply Out.upd; (· exact rfl)) | (apply Out.updL; (· exact rfl)) | (apply Out.mixs; (· exact rfl))))
    · exact congrArg (Value.int .i64) (Int.pow_succ 2 i).symm
  · have hie : i = k := by omega
    subst hie
    repeat'(first|refine kv' ?_|apply jJ|refine jE' ?_|refine jp' ?_|(apply jc;kernel_rfl)|refine kg' ?_|refine kG' ?_|refine kB' fun _=>?_|refine kA' fun _=>?_|refine kK' fun _=>?_|refine kU' ?_|((first|refine kR' ?_ ?_|refine kQ' ?_ ?_);all_goals(intro hc;try simp only[hcs]at hc;try(exfalso;first|contradiction|omega))))
    (apply ret1; (· exact rfl); intro w' hS)
    exact ⟨rfl, hS⟩
theorem q50 (c n : Int) (w : World) : CallsTo Try.prog 53 [.int .i64 c, .int .i64 n] w fun v w' => v = .bool (hasC c n) ∧ Grew w w' := by
  refine go_in (n := 18) (St.refl _ NoF) Try.func53 rfl rfl ?_
  by_cases h : 0 < n ∧ n ≤ 8
  · obtain ⟨k, rfl⟩ : ∃ k : Nat, n = (k : Int) := ⟨n.toNat, by omega⟩
    have hk := and_bit c k (by omega)
    repeat'(first|refine kv' ?_|apply jJ|refine jE' ?_|refine jp' ?_|(apply jc;kernel_rfl)|refine kg' ?_|refine kG' ?_|refine kB' fun _=>?_|refine kA' fun _=>?_|refine kK' fun _=>?_|refine kU' ?_|(apply kq; (· exact rfl); (· intro w1 h1; exact CallsTo.q (q85 k w1 (by omega)) h1))|((first|refine kR' ?_ ?_|refine kQ' ?_ ?_);all_goals(intro hc;try simp only[hcs]at hc;try(exfalso;first|contradiction|omega))))
    all_goals (
      (apply ret1; (· exact rfl); intro w' hS)
      refine ⟨congrArg Value.bool ?_, hS.toKeep⟩
      unfold hasC
      rw [decide_eq_true h, Bool.true_and, Int.toNat_natCast]
      cases hx : tb c k with
      | true => rw [decide_eq_false (fun e => by rw [hk.1 e] at hx; cases hx)]; rfl
      | false => rw [decide_eq_true (hk.2 hx)]; rfl)
  · repeat'(first|refine kv' ?_|apply jJ|refine jE' ?_|refine jp' ?_|(apply jc;kernel_rfl)|refine kg' ?_|refine kG' ?_|refine kB' fun _=>?_|refine kA' fun _=>?_|refine kK' fun _=>?_|refine kU' ?_|((first|refine kR' ?_ ?_|refine kQ' ?_ ?_);all_goals(intro hc;try simp only[hcs]at hc;try(exfalso;first|contradiction|omega))))
    all_goals (
      (apply ret1; (· exact rfl); intro w' hS)
      refine ⟨congrArg Value.bool ?_, hS.toKeep⟩
      unfold hasC
      rw [decide_eq_false h]
      rfl)
def crewTo (c : Int) (k : Nat) : List Int := ((List.range k).map fun i : Nat => ((i + 1 : Nat) : Int)).filter (hasC c)
theorem crewTo_succ (c : Int) (k : Nat) : crewTo c (k + 1) = crewTo c k ++ if hasC c ((k + 1 : Nat) : Int) then [((k + 1 : Nat) : Int)] else [] := by
  unfold crewTo
  rw [List.range_succ, List.map_append, List.filter_append]
  congr 1
  show List.filter (hasC c) [((k + 1 : Nat) : Int)] = _
  rw [List.filter_cons]
  rfl
theorem crewTo_len (c : Int) (k : Nat) : (crewTo c k).length ≤ k := by
  unfold crewTo
  refine Nat.le_trans (List.length_filter_le _ _) ?_
  simp
theorem crewTo_mem {c : Int} {k : Nat} {x : Int} (h : x ∈ crewTo c k) : 1 ≤ x ∧ x ≤ k ∧ hasC c x = true := by
  unfold crewTo at h
  obtain ⟨h1, h2⟩ := List.mem_filter.1 h
  obtain ⟨i, hi, rfl⟩ := List.mem_map.1 h1
  rw [List.mem_range] at hi
  exact ⟨by omega, by omega, h2⟩
abbrev crewL (c : Int) : List Int := crewTo c 8
theorem q109 (c : Int) (w : World) : CallsTo Try.prog 80 [.int .i64 c] w fun v w' => ∃ a' c', v = .slice a' (crewL c).length c' ∧ NewSl w w' (.slice a' (crewL c).length c') 3 1 (crewL c).length (iv (crewL c)) := by
  refine go_in (n := 17) (St.refl _ NoF) Try.func80 rfl rfl ?_
  repeat'(first|refine kv' ?_|apply jJ|refine jE' ?_|refine jp' ?_|(apply jc;kernel_rfl)|refine kg' ?_|refine kG' ?_|refine kB' fun _=>?_|refine kA' fun _=>?_|refine kK' fun _=>?_|refine kU' ?_|((first|refine kR' ?_ ?_|refine kQ' ?_ ?_);all_goals(intro hc;try simp only[hcs]at hc;try(exfalso;first|contradiction|omega))))
  apply CW.loop [3, 4, 5, 6, 7, 8, 9, 10, 11, 12, 13, 14, 15] (fun s : Cst => s.k ≤ 8) (fun s => [(3, .slice s.a (crewTo c s.k).length s.c), (4, .int .i64 ((s.k + 1 : Nat) : Int))])
    (fun s => St w NoF [ilK s.a s.c (crewTo c s.k)]) (fun s => 8 - s.k)
  · exact fun w' hw' => ⟨⟨0, none, 0⟩, by simp, ⟨rfl, rfl, trivial⟩, hw'.nilsl 3 1⟩
  rintro ⟨k, a2, c2⟩ g hk
  simp only at hk ⊢
  have hsu := crewTo_succ c k
  have hle := crewTo_len c k
  by_cases hlt : k < 8
  · cases hx : hasC c ((k + 1 : Nat) : Int)
    · rw [hx] at hsu
      simp only [Bool.false_eq_true, if_false, List.append_nil] at hsu
      repeat'(first|refine kv' ?_|apply jJ|refine jE' ?_|refine jp' ?_|(apply jc;kernel_rfl)|refine kg' ?_|refine kG' ?_|refine kB' fun _=>?_|refine kA' fun _=>?_|refine kK' fun _=>?_|refine kU' ?_|(apply kq; (· exact rfl); (· intro w1 h1; have hq := CallsTo.q (q50 c ((k + 1 : Nat) : Int) w1) h1; rw [hx] at hq; exact hq))|(apply addX;(iterate 2 exact rfl);(iterate 2(first|omega|(dsimp only;omega)));exact rfl)|((first|refine kR' ?_ ?_|refine kQ' ?_ ?_);all_goals(intro hc;try simp only[hcs]at hc;try(exfalso;first|contradiction|omega))))
      refine At.again (⟨k + 1, a2, c2⟩ : Cst) (by simp only; omega) ?_ ⟨?_, ?_, trivial⟩ ?_ (by simp only; omega)
      · (repeat (first | exact Out.refl _ _ | exact Out.mix | (apply Out.upd; (· exact rfl)) | (apply Out.updL; (· exact rfl)) | (apply Out.mixs; (· exact rfl))))
      · simp only
        rw [hsu]
        rfl
      · exact congrArg (Value.int .i64) (by show ((k + 1 : Nat) : Int) + 1 = ((k + 1 + 1 : Nat) : Int); omega)
      · intro w' hw'
        simp only
        rw [hsu]
        exact hw'.sub subZ
    · rw [hx] at hsu
      simp only [if_true] at hsu
      generalize crewTo c k = L at hsu hle ⊢
      repeat'(first|(apply Go.Hb.kK;(iterate 4 exact rfl);intro bs)|refine kv' ?_|apply jJ|refine jE' ?_|refine jp' ?_|(apply jc;kernel_rfl)|refine kg' ?_|refine kG' ?_|refine kB' fun _=>?_|refine kA' fun _=>?_|refine kK' fun _=>?_|refine kU' ?_|(apply kq; (· exact rfl); (· intro w1 h1; have hq := CallsTo.q (q50 c ((k + 1 : Nat) : Int) w1) h1; rw [hx] at hq; exact hq))|(apply addX;(iterate 2 exact rfl);(iterate 2(first|omega|(dsimp only;omega)));exact rfl)|(apply LR.append (xs := iv L) (news := [Value.int .i64 ((k + 1 : Nat) : Int)]) (m := 1); (· exact rfl); (· exact rfl); (· intro a' c'; (repeat (first | exact sH _ _ _ | apply sT))); (· exact fun w' hw' => hw'.rd_of_blk (mH _ _)); (· exact fun hx => by cases hx); (· exact rfl); (· exact rfl); (· omega); (· unfold maxLen; omega); (· exact rfl); (intro a3 c3))|((first|refine kR' ?_ ?_|refine kQ' ?_ ?_);all_goals(intro hc;try simp only[hcs]at hc;try(exfalso;first|contradiction|omega))))
      refine At.again (⟨k + 1, a3, c3⟩ : Cst) (by simp only; omega) ?_ ⟨?_, ?_, trivial⟩ ?_ (by simp only; omega)
      · (repeat (first | exact Out.refl _ _ | exact Out.mix | (apply Out.upd; (· exact rfl)) | (apply Out.updL; (· exact rfl)) | (apply Out.mixs; (· exact rfl))))
      · simp only
        rw [hsu]
        simp only [List.length_append, List.length_cons, List.length_nil]
        rfl
      · exact congrArg (Value.int .i64) (by show ((k + 1 : Nat) : Int) + 1 = ((k + 1 + 1 : Nat) : Int); omega)
      · intro w' hw'
        simp only
        rw [hsu]
        have e : ilK a3 c3 (L ++ [((k + 1 : Nat) : Int)]) = osl (.slice a3 (L.length + 1) c3) 3 1 (L.length + 1) (iv L ++ [Value.int .i64 ((k + 1 : Nat) : Int)]) := by simp [ilK, iv]
        rw [e]
        exact hw'.sub subZ
  · have hke : k = 8 := by omega
    subst hke
    repeat'(first|refine kv' ?_|apply jJ|refine jE' ?_|refine jp' ?_|(apply jc;kernel_rfl)|refine kg' ?_|refine kG' ?_|refine kB' fun _=>?_|refine kA' fun _=>?_|refine kK' fun _=>?_|refine kU' ?_|((first|refine kR' ?_ ?_|refine kQ' ?_ ?_);all_goals(intro hc;try simp only[hcs]at hc;try(exfalso;first|contradiction|omega))))
    (apply ret1; (· exact rfl); intro w' hS)
    exact ⟨a2, c2, rfl, hS.toNew memZ⟩
def sumL (l : List Int) : Int := l.foldl (fun s x => s + 2 ^ x.toNat) 0
theorem sumL_snoc (l : List Int) (x : Int) : sumL (l ++ [x]) = sumL l + 2 ^ x.toNat := by unfold sumL; rw [List.foldl_append]; rfl
theorem hasC_nat (c : Int) {k : Nat} (h : k + 1 ≤ 8) : hasC c ((k + 1 : Nat) : Int) = tb c (k + 1) := by
  unfold hasC
  rw [decide_eq_true (by omega), Bool.true_and, Int.toNat_natCast]
theorem sumL_crew (c : Int) : ∀ k, k ≤ 8 → sumL (crewTo c k) = sumTo c k
  | 0, _ => rfl
  | k + 1, h => by
    rw [crewTo_succ, hasC_nat c h]
    unfold sumTo
    rw [← sumL_crew c k (by omega)]
    split
    · rw [sumL_snoc, Int.toNat_natCast]
    · rw [List.append_nil]; omega
theorem crewTo_asc (c : Int) (k : Nat) : (crewTo c k).Pairwise (· < ·) := by
  unfold crewTo
  refine List.Pairwise.filter _ ?_
  rw [List.pairwise_map]
  exact List.pairwise_lt_range.imp (fun h => by omega)
theorem pow_lt' {a b : Nat} (h : a < b) : (2 : Int) ^ a + 2 ^ a ≤ 2 ^ b := by
  have h1 : (2 : Nat) ^ (a + 1) ≤ 2 ^ b := Nat.pow_le_pow_right (by decide) h
  have h2 : (2 : Nat) ^ (a + 1) = 2 ^ a * 2 := Nat.pow_succ 2 a
  have e1 : (2 : Int) ^ a = ((2 ^ a : Nat) : Int) := by simp
  have e2 : (2 : Int) ^ b = ((2 ^ b : Nat) : Int) := by simp
  omega
theorem hasC_small {S x : Int} (h0 : 0 ≤ S) (h1 : S < 2 ^ x.toNat) : hasC S x = false := by
  unfold hasC
  by_cases h : 0 < x ∧ x ≤ 8
  · rw [decide_eq_true h, Bool.true_and, tb_div S x.toNat (by omega), Int.fdiv_eq_ediv_of_nonneg S (Int.le_of_lt (Int.pow_pos (by decide))), Int.ediv_eq_zero_of_lt h0 h1]
    rfl
  · rw [decide_eq_false h]; rfl
set_option maxHeartbeats 1000000 in
theorem q108 (a : Option Addr) (c : Nat) (m : Int) (w : World) (hr : Rd w a (iv (crewL m))) : CallsTo Try.prog 79 [.slice a (crewL m).length c] w fun v w' => v = .tuple [.int .i64 (sumB m), .int .i64 0].toArray ∧ Grew w w' := by
  refine go_in (n := 39) (St.rd1 hr) Try.func79 rfl rfl ?_
  have hsum : sumL (crewL m) = sumB m := sumL_crew m 8 (by omega)
  have hlen : (crewL m).length ≤ 8 := crewTo_len m 8
  have hasc : (crewL m).Pairwise (· < ·) := crewTo_asc m 8
  have hmem : ∀ x ∈ crewL m, 1 ≤ x ∧ x ≤ 8 := fun x hx => by have := crewTo_mem hx; omega
  rw [← hsum]
  generalize crewL m = l at hr hlen hasc hmem ⊢
  repeat'(first|refine kv' ?_|apply jJ|refine jE' ?_|refine jp' ?_|(apply jc;kernel_rfl)|refine kg' ?_|refine kG' ?_|refine kB' fun _=>?_|refine kA' fun _=>?_|refine kK' fun _=>?_|refine kU' ?_|((first|refine kR' ?_ ?_|refine kQ' ?_ ?_);all_goals(intro hc;try simp only[hcs]at hc;try(exfalso;first|contradiction|omega))))
  apply CW.loop [2, 3, 4, 5, 6, 7, 8, 9, 10, 11, 12, 13, 14, 15, 16, 17, 18, 19, 20, 21, 22, 23, 24, 25, 26, 27, 28, 29, 30, 31, 32, 33, 34, 35, 36, 37] (fun i : Nat => i ≤ l.length ∧ 0 ≤ sumL (l.take i) ∧ ∀ x ∈ l.drop i, sumL (l.take i) < 2 ^ x.toNat) (fun i : Nat => [(4, Value.int .i64 (sumL (l.take i))), (5, Value.int .i64 (i : Int))]) (fun _ => St w NoF [rdA a (iv l)]) (fun i => l.length - i)
  · exact fun w' hw' => ⟨0, ⟨by omega, Int.le_refl _, fun x hx => Int.pow_pos (by decide)⟩, ⟨rfl, rfl, trivial⟩, hw'⟩
  intro i g ⟨hi, hS0, hSx⟩
  by_cases hlt : i < l.length
  · obtain ⟨ba, oa, rfl⟩ := hr.form (fun e => by have := congrArg List.length e; simp only [iv_length, List.length_nil] at this; omega)
    obtain ⟨y, hy⟩ : ∃ y, l[i] = y := ⟨_, rfl⟩
    have hyb := hmem _ (List.getElem_mem hlt)
    have hyS := hSx l[i] (by rw [List.drop_eq_getElem_cons hlt]; exact List.mem_cons_self ..)
    have hno := hasC_small hS0 hyS
    have htk : sumL (l.take (i + 1)) = sumL (l.take i) + 2 ^ l[i].toNat := by
      rw [List.take_add_one, List.getElem?_eq_getElem hlt]
      exact sumL_snoc _ _
    have hdr : ∀ x ∈ l.drop (i + 1), l[i] < x := by
      have h1 := hasc.sublist (List.drop_sublist i l)
      rw [List.drop_eq_getElem_cons hlt, List.pairwise_cons] at h1
      exact h1.1
    have hp : (2 : Int) ^ l[i].toNat ≤ 256 := by
      have := low9 (n := l[i].toNat) (by omega)
      rcases this with e | e | e | e | e | e | e | e | e <;> rw [e] <;> decide
    have hp0 : (0 : Int) < 2 ^ l[i].toNat := Int.pow_pos (by decide)
    have hiv : (iv l)[i]? = some (.int .i64 (l[i].toNat : Int)) := by
      rw [iv_get hlt, Int.toNat_of_nonneg (by omega)]
    have hno' : hasC (sumL (l.take i)) (l[i].toNat : Int) = false := by rw [Int.toNat_of_nonneg (by omega)]; exact hno
    have hn8 : l[i].toNat ≤ 8 := by omega
    have hn1 : 1 ≤ l[i].toNat := by omega
    have hdr' : ∀ x ∈ l.drop (i + 1), (l[i].toNat : Int) < x := fun x hx => by have := hdr x hx; omega
    generalize l[i].toNat = k at *
    repeat'(first|refine kv' ?_|apply jJ|refine jE' ?_|refine jp' ?_|(apply jc;kernel_rfl)|refine kg' ?_|refine kG' ?_|refine kB' fun _=>?_|refine kA' fun _=>?_|refine kK' fun _=>?_|refine kU' ?_|(apply idxX;(iterate 2 exact rfl);(iterate 2(first|omega|(dsimp only;omega)));exact rfl)|(apply LR.ev; (· apply Ev.load_rd; (· exact rfl); (· repeat (first | exact mH _ _ | apply mT)); (· exact (by rw [show (i : Int).toNat * 1 = i by omega]; exact hiv))); (· exact rfl))|(apply addX;(iterate 2 exact rfl);(iterate 2(first|omega|(dsimp only;omega)));exact rfl)|(apply kq; (· exact rfl); (· intro w1 h1; first | (have hq := CallsTo.q (q50 (sumL (l.take i)) (k : Int) w1) h1; rw [hno'] at hq; exact hq) | exact CallsTo.q (q85 k w1 (by omega)) h1))|((first|refine kR' ?_ ?_|refine kQ' ?_ ?_);all_goals(intro hc;try simp only[hcs]at hc;try(exfalso;first|contradiction|omega))))
    refine At.again (i + 1) ⟨by omega, by rw [htk]; omega, fun x hx => ?_⟩ ?_ ⟨?_, rfl, trivial⟩ (fun w' hw' => hw') (by omega)
    · have h1 := hdr' x hx
      have h2 := pow_lt' (a := k) (b := x.toNat) (by omega)
      rw [htk]
      omega
    · (repeat (first | exact Out.refl _ _ | exact Out.mix | (apply Out.upd; (· exact rfl)) | (apply Out.updL; (· exact rfl)) | (apply Out.mixs; (· exact rfl))))
    · rw [htk]; rfl
  · have hie : i = l.length := by omega
    subst hie
    rw [List.take_length] at hS0 hSx ⊢
    repeat'(first|refine kv' ?_|apply jJ|refine jE' ?_|refine jp' ?_|(apply jc;kernel_rfl)|refine kg' ?_|refine kG' ?_|refine kB' fun _=>?_|refine kA' fun _=>?_|refine kK' fun _=>?_|refine kU' ?_|((first|refine kR' ?_ ?_|refine kQ' ?_ ?_);all_goals(intro hc;try simp only[hcs]at hc;try(exfalso;first|contradiction|omega))))
    (apply ret2; (· exact rfl); intro w' hS)
    exact ⟨rfl, hS.toKeep⟩
theorem q83 (c : Int) (w : World) : CallsTo Try.prog 48 [.int .i64 c] w fun v w' => v = .int .i64 (if crewOk c then 0 else 2) ∧ Grew w w' := by
  refine go_in (n := 14) (St.refl _ NoF) Try.func48 rfl rfl ?_
  have hk := sumB_ok c
  repeat'(first|refine kv' ?_|apply jJ|refine jE' ?_|refine jp' ?_|(apply jc;kernel_rfl)|refine kg' ?_|refine kG' ?_|refine kB' fun _=>?_|refine kA' fun _=>?_|refine kK' fun _=>?_|refine kU' ?_|((first|refine kR' ?_ ?_|refine kQ' ?_ ?_);all_goals(intro hc;try simp only[hcs]at hc;try(exfalso;first|contradiction|omega))))
  apply LR.call
  · exact rfl
  intro w1 h1
  refine (q109 c w1).mono ?_
  rintro v w2 ⟨a1, c1, rfl, hn⟩
  refine LR.back (h1.newSl hn) ?_
  clear hn h1
  repeat'(first|refine kv' ?_|apply jJ|refine jE' ?_|refine jp' ?_|(apply jc;kernel_rfl)|refine kg' ?_|refine kG' ?_|refine kB' fun _=>?_|refine kA' fun _=>?_|refine kK' fun _=>?_|refine kU' ?_|(apply kq; (· exact rfl); (· intro w1 h1; exact CallsTo.q (q108 a1 c1 c w1 (h1.rd_of_own memZ)) h1))|((first|refine kR' ?_ ?_|refine kQ' ?_ ?_);all_goals(intro hc;try simp only[hcs]at hc;try(exfalso;first|contradiction|omega))))
  all_goals (
    (apply ret1; (· exact rfl); intro w' hS)
    refine ⟨congrArg (Value.int .i64) ?_, hS.toKeep⟩
    first
      | (rw [if_pos (hk.1 (by assumption))])
      | (rw [if_neg (fun h => absurd (hk.2 h) (by assumption))]))
end Go.Proofs.Ytgblmkpfkcibiaa

namespace Go.Proofs.Ytgblmkpfkcibiaa
open Go.Hb
attribute [local irreducible] LR CW At Ev thn blk finK noG again CallsTo
set_option maxRecDepth 100000

def pcs (ps : List Plc) : List Value := ps.flatMap Plc.cells
theorem pcs_length (ps : List Plc) : (pcs ps).length = ps.length * 4 := by
  induction ps with
  | nil => rfl
  | cons p r ih => simp only [pcs, List.flatMap_cons, List.length_append, List.length_cons] at ih ⊢; rw [ih]; simp [Plc.cells]; omega
def plcsI (ps : List Plc) : Prop := ∀ p ∈ ps, i64 p.ring ∧ i64 p.seq ∧ i64 p.rep ∧ i64 p.members

def incr : Int → List Plc → Bool
  | _, [] => true
  | last, p :: r => decide (last < p.ring) && incr p.ring r
def plcNums (p : Plc) : List Int := [p.ring, p.seq, p.rep, p.members]
def plcsBytes (ps : List Plc) : List Int := enc ps.length ++ ps.flatMap fun p => encs (plcNums p)
def charts (ps : List Plc) : List Int × Int :=
  if 4 < ps.length then ([], 5) else if (ps.any fun p => !plcB p) = true then ([], 2) else if incr (-1) ps = false then ([], 2) else (plcsBytes ps, 0)
end Go.Proofs.Ytgblmkpfkcibiaa

namespace Go.Hb
section
variable {P : Program} {md : Region.Mode} {ops : Array Oper} {Q Q' : Exit → Act → World → Prop} {z : Nat}
theorem oper_only (hN : ∀ e a w, Q' e a w → e = .normal) {o : Oper} {a : Act} {w : World} {K K' : Act → World → Prop} (hk : ∀ a w, K a w → K' a w) (h : o.wp P a w K Q') : o.wp P a w K' Q := by
  unfold Oper.wp at *
  generalize (execOp a.eval o).run P w = r at *
  cases r with
  | ok nx w' =>
    cases nx <;> simp only [Oper.upon] at h ⊢
    case value => exact hk _ _ h
    case skip => exact hk _ _ h
    case defer => exact hk _ _ h
    case enter g args =>
      refine Calls.mono h fun e w'' he => ?_
      cases e with
      | returned u => exact hk _ _ he
      | panicked c => cases hN _ _ _ he
      | outgrown => obtain ⟨_, _, he⟩ := he; cases hN _ _ _ he
    case row => exact Rows.mono h (fun _ _ he => hk _ _ he)
  | halt x w' =>
    cases x <;> simp only [Oper.upon] at h ⊢
    case panic => cases hN _ _ _ h
theorem wpOp_only (hN : ∀ e a w, Q' e a w → e = .normal) {i : Nat} {a : Act} {w : World} {K K' : Act → World → Prop} (hk : ∀ a w, K a w → K' a w) (h : wpOp P ops Q' i K a w) : wpOp P ops Q i K' a w := by
  unfold wpOp at *
  cases ho : ops[i]? with
  | none => simp only [ho] at h; exact hk _ _ h
  | some o =>
    simp only [ho] at h ⊢
    split
    · rename_i hw
      rw [if_pos hw] at h
      rcases h with h | ⟨_, a', w', he⟩
      · exact .inl (oper_only hN hk h)
      · cases hN _ _ _ he
    · rename_i hw
      rw [if_neg hw] at h
      exact hk _ _ h
structure Sink (md : Region.Mode) (ops : Array Oper) (z : Nat) : Prop where
  deps : ∀ (j : Nat) (o : Oper), ops[j]? = some o → ∀ e ∈ o.after, Region.binds md e = true → e.on ≠ z ∧ e.on < j
  all : ∀ i, i < ops.size → i ≠ z → ∃ (j : Nat) (o : Oper), ops[j]? = some o ∧ ∃ e ∈ o.after, Region.binds md e = true ∧ e.on = i
  lt : z < ops.size
theorem getD_tf {listed : Array Bool} {i : Nat} (h : listed.getD i false = true) : listed.getD i true = true := by
  rcases Nat.lt_or_ge i listed.size with h' | h'
  · simp [h'] at h ⊢; exact h
  · simp [Array.getElem?_eq_none h'] at h
def Closed (md : Region.Mode) (ops : Array Oper) (z : Nat) (listed : Array Bool) : Prop := ∀ (j : Nat) (o : Oper), ops[j]? = some o → j ≠ z → listed.getD j false = true → ∀ e ∈ o.after, Region.binds md e = true → listed.getD e.on false = true
theorem Sink.before (hs : Sink md ops z) {listed : Array Bool} (hc : Closed md ops z listed) (hz : z ∈ Region.ready md ops listed) : ∀ d k, ops.size - k ≤ d → k < ops.size → k ≠ z → listed.getD k false = true := by
  intro d
  induction d with
  | zero => intro k hd hk; omega
  | succ d ih =>
    intro k hd hk hkz
    obtain ⟨j, o, ho, e, he, hb, rfl⟩ := hs.all k hk hkz
    have hj : j < ops.size := (Array.getElem?_eq_some_iff.1 ho).1
    have hlt := (hs.deps j o ho e he hb).2
    by_cases hjz : j = z
    · subst hjz
      obtain ⟨_, o', ho', hd'⟩ := mem_ready.1 hz
      rw [ho] at ho'; cases ho'
      exact hd' e he hb
    · exact hc j o ho hjz (ih j (by omega) hj hjz) e he hb
end
section
variable {P : Program} {n : Nat} {ops : List Oper} {Q : Post} {f : Frm} {C : World → Prop}
end
end Go.Hb

namespace Go.Hb

def Finds {κ : Type} (P : Program) (kt : TypeId) (enc : κ → Value) (l : List (κ × Value)) (es : List MapEntry) (a : κ) (w : World) : Prop :=
  ((Instr.findKey kt (enc a) es).run P w = .ok none w ∧ ∀ p ∈ l, p.1 ≠ a) ∨ ∃ j u, (Instr.findKey kt (enc a) es).run P w = .ok (some (j, u)) w ∧ l[j]? = some (a, u)
class KMap (P : Program) (T : TypeId) {κ : Type} (enc : κ → Value) (ok : κ → Prop) (z : outParam Value) : Prop where
  ex : ∃ kt et, P.underlying T = some (.map kt et) ∧ (∀ em a w, ok a → (Instr.checkKey em 10000 kt (enc a)).run P w = .ok () w) ∧
    (∀ (l : List (κ × Value)) (es : List MapEntry) a w, es.map (fun e => (e.key, e.val)) = l.map (fun p => (enc p.1, p.2)) → (∀ p ∈ l, ok p.1) → ok a → Finds P kt enc l es a w) ∧ ∀ w, (zeroValue et).run P w = .ok z w
def kmH {κ : Type} (enc : κ → Value) (b : Nat) (l : List (κ × Value)) (w : World) : Prop := ∃ es clock, w.heap[b]? = some (.map es clock) ∧ es.toList.map (fun e => (e.key, e.val)) = l.map (fun p => (enc p.1, p.2))
def kmap {κ : Type} (enc : κ → Value) (b : Nat) (l : List (κ × Value)) : Asrt := .ex (fun j => j = b) (kmH enc b l)
section
variable {κ : Type} {enc : κ → Value} {ok : κ → Prop}
theorem kmap.dep (b : Nat) (l : List (κ × Value)) : (kmap enc b l).dep := by
  intro w w' hk h
  obtain ⟨es, clock, hb, he⟩ := h
  exact ⟨es, clock, by rw [hk b rfl]; exact hb, he⟩
theorem kmap.live {b : Nat} {l : List (κ × Value)} {w : World} (h : kmH enc b l w) : ∀ j, (kmap enc b l).foot j → j < w.heap.size := by
  rintro j rfl
  obtain ⟨es, clock, hb, _⟩ := h
  exact (Array.getElem?_eq_some_iff.1 hb).1
variable {P : Program} {f : Frm} {T T' : TypeId} {x y z : Operand} {v zv : Value} {w0 : World} {F : Nat → Prop} {L L' : List Asrt}
variable {C : World → Prop} {n : Nat} {ops rest : List Oper} {Q : Post} {p : String} {af : Array Edge} {d : Nat}
theorem LR.makeMapK [h : KMap P T enc ok zv] (hd : Nat.blt d n = true) (k : ∀ b, LR false P n ops rest Q (upd f d (.map (some b))) (St w0 F (kmap enc b [] :: L))) :
    LR false P n ops (⟨some d, .makeMap T none, T', p, af, none⟩ :: rest) Q f (St w0 F L) := by
  intro w hw a ha
  refine wpList_plain rfl fun K hK => ?_
  have hr : (execOp a.eval ⟨some d, .makeMap T none, T', p, af, none⟩).run P w = .ok (.value (.map (some w.heap.size))) { w with heap := w.heap.push (.map #[] 0) } := by
    simp [execOp, Instr.makeMap, newObj, Sem.run]
  simp only [Oper.wp, hr, Oper.upon_value]
  refine hK _ _ (k w.heap.size _ ?_ _ (ha.put _ hd))
  have h1 := hw.alloc (.map #[] 0)
  refine h1.turn (Sel.head _ _ _) rfl (St.refl _ _) ?_ (fun k hk => .inl hk) (kmap.dep _ _)
  exact ⟨#[], 0, h1.own_at (List.Mem.head _), rfl⟩
theorem Ev.lookup_no {b : Nat} {l : List (κ × Value)} {a : κ} [h : KMap P T enc ok zv] (hx : f.ev x = .map (some b)) (hy : f.ev y = enc a) (hm : ∀ w, C w → kmH enc b l w) (hl : ∀ p ∈ l, ok p.1) (ha : ok a) (hno : ∀ p ∈ l, p.1 ≠ a) :
    Ev P C f (.lookup T x y true) T' (.tuple [zv, .bool false].toArray) := fun w hw d p af g => by
  obtain ⟨kt, et, ht, K, hf, hz⟩ := h.ex
  obtain ⟨es, clock, hb, he⟩ : kmH enc b l w := hm w hw
  have hlx := fun em => K em a w ha
  rcases hf l es.toList a w he hl ha with ⟨h1, _⟩ | ⟨j, u, h1, h2⟩
  · simp [execOp, hx, hy, Instr.lookup, run_underlying ht, MapKept.run_getObj_map hb, hlx, h1, hz, Result.andThen]
  · exact absurd rfl (hno _ (List.mem_of_getElem? h2))
theorem Ev.lookup_yes {b : Nat} {l : List (κ × Value)} {a : κ} {u : Value} [h : KMap P T enc ok zv] (hx : f.ev x = .map (some b)) (hy : f.ev y = enc a) (hm : ∀ w, C w → kmH enc b l w) (hl : ∀ p ∈ l, ok p.1) (hd : (l.map Prod.fst).Nodup) (ha : (a, u) ∈ l) :
    Ev P C f (.lookup T x y true) T' (.tuple [u, .bool true].toArray) := fun w hw d p af g => by
  obtain ⟨kt, et, ht, K, hf, hz⟩ := h.ex
  obtain ⟨es, clock, hb, he⟩ : kmH enc b l w := hm w hw
  have hlx := fun em => K em a w (hl _ ha)
  rcases hf l es.toList a w he hl (hl _ ha) with ⟨h1, h2⟩ | ⟨j, u', h1, h2⟩
  · exact absurd rfl (h2 _ ha)
  · have hu : u' = u := by
      obtain ⟨i, hi⟩ := List.getElem?_of_mem ha
      have e1 : (l.map Prod.fst)[i]? = some a := by rw [List.getElem?_map, hi]; rfl
      have e2 : (l.map Prod.fst)[j]? = some a := by rw [List.getElem?_map, h2]; rfl
      have hi2 := (List.getElem?_eq_some_iff.1 e1).1
      have := (List.getElem?_inj hi2 hd).1 (e1.trans e2.symm)
      subst this
      rw [hi] at h2
      simpa using h2.symm
    subst hu
    simp [execOp, hx, hy, Instr.lookup, run_underlying ht, MapKept.run_getObj_map hb, hlx, h1, Result.andThen]
theorem LR.insertK {b : Nat} {l : List (κ × Value)} {a : κ} [h : KMap P T enc ok zv] (hx : f.ev x = .map (some b)) (hy : f.ev y = enc a) (hz : f.ev z = v)
    (hs : Sel L (kmap enc b l) (kmap enc b (l ++ [(a, v)])) L') (hl : ∀ p ∈ l, ok p.1) (ha : ok a) (hno : ∀ p ∈ l, p.1 ≠ a)
    (k : LR false P n ops rest Q f (St w0 F L')) : LR false P n ops (⟨none, .mapUpdate T x y z, T', p, af, none⟩ :: rest) Q f (St w0 F L) := by
  intro w hw act hact
  refine wpList_plain rfl fun K' hK => ?_
  obtain ⟨kt, et, ht, K, hf, _⟩ := h.ex
  obtain ⟨es, clock, hb, he⟩ : kmH enc b l w := (hw.holds _ hs.mem)
  have hlx := fun em => K em a w ha
  rcases hf l es.toList a w he hl ha with ⟨h1, _⟩ | ⟨j, u, h1, h2⟩
  · have hr : (execOp act.eval ⟨none, .mapUpdate T x y z, T', p, af, none⟩).run P w = .ok .skip { w with heap := w.heap.setIfInBounds b (.map (es.push ⟨enc a, v, clock⟩) (clock + 1)) } := by
      rw [hact.eval]
      simp only [execOp, hx, hy, hz, Instr.mapUpdate, Sem.run_bind, run_underlying ht, Result.andThen_ok, MapKept.run_getObj_map hb, hlx, h1, MapKept.run_setObj_map _ hb, Sem.run_pure]
    simp only [Oper.wp, hr, Oper.upon_skip]
    have hsz : b < w.heap.size := (Array.getElem?_eq_some_iff.1 hb).1
    refine hK _ _ (k _ ?_ _ (hact.put_none undef))
    exact hw.turn hs rfl (Keep.setObj w b _ rfl) ⟨es.push ⟨enc a, v, clock⟩, clock + 1, by show (w.heap.setIfInBounds b _)[b]? = _; simp [hsz], by simp [he]⟩ (fun k hk => .inl hk) (kmap.dep _ _)
  · exact absurd rfl (hno _ (List.mem_of_getElem? h2))
theorem LR.deleteK [DecidableEq κ] {b : Nat} {l : List (κ × Value)} {a : κ} {K1 : TypeId} [h : KMap P T enc ok zv] (hu : (match P.underlying T with | some (.map k _) => Nat.beq k K1 | _ => false) = true) (hx : f.ev x = .map (some b)) (hy : f.ev y = enc a)
    (hs : Sel L (kmap enc b l) (kmap enc b (l.filter fun p => decide (p.1 ≠ a))) L') (hl : ∀ p ∈ l, ok p.1) (hnd : (l.map Prod.fst).Nodup) (ha : ok a)
    (k : LR false P n ops rest Q f (St w0 F L')) : LR false P n ops (⟨none, .call ⟨.builtin .delete, [x, y].toArray, [T, K1].toArray⟩, T', p, af, none⟩ :: rest) Q f (St w0 F L) := by
  intro w hw act hact
  refine wpList_plain rfl fun K' hK => ?_
  obtain ⟨kt, et, ht, K, hf, _⟩ := h.ex
  obtain ⟨es, clock, hb, he⟩ : kmH enc b l w := (hw.holds _ hs.mem)
  have hlx := fun em => K em a w ha
  have hsz : b < w.heap.size := (Array.getElem?_eq_some_iff.1 hb).1
  have fin : ∀ es', es'.toList.map (fun e => (e.key, e.val)) = (l.filter fun p => decide (p.1 ≠ a)).map (fun p => (enc p.1, p.2)) → (Builtin.delete_ #[T, K1] T' #[.map (some b), enc a]).run P w = .ok (.tuple #[]) { w with heap := w.heap.setIfInBounds b (.map es' clock) } →
      (⟨none, .call ⟨.builtin .delete, [x, y].toArray, [T, K1].toArray⟩, T', p, af, none⟩ : Oper).wp P act w K' (lift n Q) := by
    intro es' he' hr
    have hr' : (execOp act.eval ⟨none, .call ⟨.builtin .delete, [x, y].toArray, [T, K1].toArray⟩, T', p, af, none⟩).run P w = .ok (.value (.tuple #[])) { w with heap := w.heap.setIfInBounds b (.map es' clock) } := by
      rw [hact.eval]
      simp only [execOp, resolve, invoke, builtin, Sem.run_bind, Sem.run_pure, Result.andThen_ok, List.map_toArray, List.map_cons, List.map_nil, hx, hy, hr]
    simp only [Oper.wp, hr', Oper.upon_value]
    refine hK _ _ (k _ ?_ _ (hact.put_none _))
    exact hw.turn hs rfl (Keep.setObj w b _ rfl) ⟨es', clock, by show (w.heap.setIfInBounds b _)[b]? = _; simp [hsz], he'⟩ (fun k hk => .inl hk) (kmap.dep _ _)
  rcases hf l es.toList a w he hl ha with ⟨h1, h2⟩ | ⟨j, u, h1, h2⟩
  · refine fin es ?_ ?_
    · rw [List.filter_eq_self.2 (fun p hp => by simpa using h2 p hp), he]
    · simp [Builtin.delete_, run_underlying ht, MapKept.run_getObj_map hb, hlx, h1, MapKept.run_setObj_map _ hb, Result.andThen]
  · have hlen : es.toList.length = l.length := by have := congrArg List.length he; simpa using this
    have hj : j < l.length := (List.getElem?_eq_some_iff.1 h2).1
    have hjs : j < es.size := by rw [← Array.length_toList, hlen]; exact hj
    refine fin (es.eraseIdxIfInBounds j) ?_ ?_
    · have hsub : (es.eraseIdxIfInBounds j).toList = es.toList.eraseIdx j := by
        unfold Array.eraseIdxIfInBounds
        rw [dif_pos hjs]
        simp
      have hf := ChangeMaps.filter_eq_eraseIdx (fun p : κ × Value => decide (p.1 = a)) l j (a, u) h2 (by simp) (by
        rw [List.nodup_iff_pairwise_ne, List.pairwise_map] at hnd
        exact hnd.imp (fun {p q} hpq ⟨e1, e2⟩ => hpq (by simp at e1 e2; rw [e1, e2])))
      rw [hsub, ChangeMaps.map_eraseIdx, he, ← ChangeMaps.map_eraseIdx, ← hf]
      congr 1
      refine List.filter_congr fun p _ => ?_
      simp
    · simp [Builtin.delete_, run_underlying ht, MapKept.run_getObj_map hb, hlx, h1, MapKept.run_setObj_map _ hb, Result.andThen]
end
end Go.Hb

namespace Go.Hb
section
variable {α : Type} {f : α → List Value} {n : Nat}
theorem rows_get (hf : ∀ x, (f x).length = n) : ∀ (l : List α) (i j : Nat) (v : Value) (h : i < l.length), (f l[i])[j]? = some v → (l.flatMap f)[i * n + j]? = some v
  | x :: r, 0, j, v, h, hj => by
    have hlt : j < (f x).length := (List.getElem?_eq_some_iff.1 hj).1
    rw [List.flatMap_cons, Nat.zero_mul, Nat.zero_add, List.getElem?_append_left hlt]
    exact hj
  | x :: r, i + 1, j, v, h, hj => by
    have ih := rows_get hf r i j v (by simpa using h) hj
    rw [List.flatMap_cons, List.getElem?_append_right (by rw [hf]; rw [Nat.add_mul]; omega), hf, show (i + 1) * n + j - n = i * n + j by rw [Nat.add_mul]; omega]
    exact ih
theorem rows_len (hf : ∀ x, (f x).length = n) : ∀ (l : List α), (l.flatMap f).length = l.length * n
  | [] => by simp
  | x :: r => by rw [List.flatMap_cons, List.length_append, hf, rows_len hf r, List.length_cons, Nat.add_mul]; omega
theorem rd_row (hf : ∀ x, (f x).length = n) {w : World} {b o : Nat} {l : List α} (h : Rd w (some ⟨b, o, none⟩) (l.flatMap f)) {i q : Nat} (hi : i < l.length) (hq : q = i * n) : ∀ j v, (f l[i])[j]? = some v → w.cell? ((⟨b, o + q, none⟩ : Addr).add j) = some v := by
  intro j v hj
  subst hq
  rw [addr_add, Nat.add_assoc]
  exact h.cell (rows_get hf l i j v hi hj)
theorem rows_ne (hf : ∀ x, (f x).length = n) (hn : 0 < n) {l : List α} {i : Nat} (h : i < l.length) : l.flatMap f ≠ [] := fun e => by
  have := rows_len hf l
  rw [e] at this
  have h2 : 1 * n ≤ l.length * n := Nat.mul_le_mul_right _ (by omega)
  simp only [List.length_nil] at this
  omega
end
section
variable {w0 w : World} {L : List Asrt} {x : Asrt} {a : Option Addr} {xs : List Value}
theorem St.oldRdF {F : Nat → Prop} (h : St w0 F L w) (hr : Rd w0 a xs) (hF : ∀ k, rdFoot a xs k → ¬ F k) : Rd w a xs :=
  Rd.dep a xs w0 w (fun k hk => h.keep k (hr.live k hk) (hF k hk)) hr
theorem DW.castL {P : Program} {n : Nat} {ops : List Oper} {Q : Post} {done : List Nat} {S : World → Prop} {f : Frm} {w0 : World} {F : Nat → Prop} {L L' : List Asrt} (e : L = L') (h : DW P n ops Q done S f (St w0 F L')) : DW P n ops Q done S f (St w0 F L) := e ▸ h
end
end Go.Hb

namespace Go.Hb
def intK (q : IntKind) (a : Int) : Value := .int q a
def okK (_ : Int) : Prop := True
theorem findNow_l (q : IntKind) (a : Int) : ∀ (es : List MapEntry) (l : List (Int × Value)) (i : Nat), es.map (fun e => (e.key, e.val)) = l.map (fun p => (intK q p.1, p.2)) →
    (Instr.findNow (.int q) (.int q a) es i = some none ∧ ∀ p ∈ l, p.1 ≠ a) ∨ ∃ j u, Instr.findNow (.int q) (.int q a) es i = some (some (i + j, u)) ∧ l[j]? = some (a, u)
  | [], l, i, h => by
    have hl : l = [] := by cases l with | nil => rfl | cons p r => simp at h
    subst hl
    exact .inl ⟨rfl, by simp⟩
  | e :: es, l, i, h => by
    cases l with
    | nil => simp at h
    | cons p r =>
      simp only [List.map_cons, List.cons.injEq, Prod.mk.injEq] at h
      obtain ⟨⟨h1, h2⟩, h3⟩ := h
      have hs : Instr.sameNow (.int q) (.int q a) e.key = some (decide (a = p.1)) := by
        rw [h1]
        simp only [Instr.sameNow, intK]
        congr 1
      by_cases hp : a = p.1
      · refine .inr ⟨0, e.val, ?_, ?_⟩
        · rw [Instr.findNow, hs, decide_eq_true hp]; rfl
        · simp [hp, h2]
      · rcases findNow_l q a es r (i + 1) h3 with ⟨h4, h5⟩ | ⟨j, u, h4, h5⟩
        · refine .inl ⟨by simp [Instr.findNow, hs, hp, h4], fun x hm => ?_⟩
          rcases List.mem_cons.1 hm with rfl | hm
          · exact fun e => hp e.symm
          · exact h5 x hm
        · refine .inr ⟨j + 1, u, ?_, by simpa using h5⟩
          rw [show i + (j + 1) = i + 1 + j by omega]
          simp [Instr.findNow, hs, hp, h4]
theorem KMap.ofInt {P : Program} {T kt et : TypeId} {q : IntKind} {z : Value} (hT : P.underlying T = some (.map kt et)) (hk : P.underlying kt = some (.int q)) (hz : ∀ w, (zeroValue et).run P w = .ok z w) : KMap P T (intK q) okK z := by
  refine ⟨kt, et, hT, fun em a w _ => MapKept.run_checkKey (k := .int q a) hk (by rfl) em 9999, fun l es a w he _ _ => ?_, hz⟩
  rcases findNow_l q a es l 0 he with ⟨h1, h2⟩ | ⟨j, u, h1, h2⟩
  · exact .inl ⟨MapKept.run_findKey hk h1, h2⟩
  · rw [Nat.zero_add] at h1
    exact .inr ⟨j, u, MapKept.run_findKey hk h1, h2⟩
section
variable {P : Program} {ops : List Oper} {z : Nat} {Z D : List Nat}
structure Gate (ops : List Oper) (z : Nat) (Z D : List Nat) : Prop where
  mem : Z.contains z = true
  zlt : ∀ j, Z.contains j = true → j < ops.length
  deps : ∀ (j : Nat) (o : Oper), ops[j]? = some o → Z.contains j = false → ∀ e ∈ o.after, Region.binds .any e = true → Z.contains e.on = false ∧ e.on < j
  others : ∀ (j : Nat) (o : Oper), ops[j]? = some o → Z.contains j = true → j ≠ z → ∃ e ∈ o.after, Region.binds .any e = true ∧ Z.contains e.on = true
  zdeps : ∀ (o : Oper), ops[z]? = some o → ∀ e ∈ o.after, Region.binds .any e = true → Z.contains e.on = false
  all : ∀ i, i < ops.length → Z.contains i = false → D.contains i = false → ∃ (j : Nat) (o : Oper), ops[j]? = some o ∧ (j = z ∨ (Z.contains j = false ∧ i < j)) ∧ ∃ e ∈ o.after, Region.binds .any e = true ∧ e.on = i
def gateB (ops : List Oper) (z : Nat) (Z D A : List Nat) : Bool :=
  Z.contains z && Z.all (fun j => Nat.blt j ops.length) && ((List.range ops.length).all fun j => match ops[j]? with
    | some o =>
      (Z.contains j || o.after.all fun e => !Region.binds .any e || (!Z.contains e.on && Nat.blt e.on j)) &&
      (!Z.contains j || Nat.beq j z || o.after.any fun e => Region.binds .any e && Z.contains e.on) &&
      (!Nat.beq j z || o.after.all fun e => !Region.binds .any e || !Z.contains e.on) &&
      (Z.contains j || D.contains j || ((List.range ops.length).any fun k => (Nat.beq k z || (!Z.contains k && Nat.blt j k)) && match ops[k]? with | some o => o.after.any fun e => Region.binds .any e && Nat.beq e.on j | none => false)) &&
      ((D ++ A).contains j == !Z.contains j)
    | none => false) && (D ++ A).all (fun j => Nat.blt j ops.length) && Nat.ble ((D ++ A).length + Z.length) ops.length && Nat.ble ops.length ((D ++ A).length + Z.length)
theorem gateB_sound {A : List Nat} (h : gateB ops z Z D A = true) : Gate ops z Z D ∧ (∀ j, j < ops.length → ((D ++ A).contains j = !Z.contains j)) ∧ (∀ j ∈ D ++ A, j < ops.length) ∧ (D ++ A).length + Z.length = ops.length := by
  unfold gateB at h
  simp only [Bool.and_eq_true] at h
  obtain ⟨⟨⟨⟨⟨h1, h2⟩, h3⟩, h4⟩, h5⟩, h6⟩ := h
  have h5' := Nat.le_of_ble_eq_true h5
  have h6' := Nat.le_of_ble_eq_true h6
  have key : ∀ j o, ops[j]? = some o → _ := fun j o ho => by
    have hj : j < ops.length := (List.getElem?_eq_some_iff.1 ho).1
    have := List.all_eq_true.1 h3 j (List.mem_range.2 hj)
    rw [ho] at this
    simp only [Bool.and_eq_true] at this
    exact this
  refine ⟨⟨h1, fun j hj => ?_, fun j o ho hz e he hb => ?_, fun j o ho hz hne => ?_, fun o ho e he hb => ?_, fun i hi hz hd => ?_⟩, fun j hj => ?_, fun j hj => ?_, by omega⟩
  · have := List.all_eq_true.1 h2 j (by simpa using hj)
    simpa using this
  · have := (key j o ho).1.1.1.1
    rw [hz, Bool.false_or] at this
    have := (Array.all_eq_true_iff_forall_mem.1 this) e he
    simp only [hb, Bool.not_true, Bool.false_or, Bool.and_eq_true, Bool.not_eq_true'] at this
    exact ⟨this.1, by simpa using this.2⟩
  · have := (key j o ho).1.1.1.2
    rw [hz] at this
    simp only [Bool.not_true, Bool.false_or, Bool.or_eq_true] at this
    rcases this with h | h
    · exact absurd (Nat.eq_of_beq_eq_true h) hne
    · obtain ⟨i, hi, h⟩ := Array.any_eq_true.1 h
      simp only [Bool.and_eq_true] at h
      exact ⟨_, Array.getElem_mem hi, h.1, h.2⟩
  · have := (key z o ho).1.1.2
    rw [show Nat.beq z z = true from Nat.beq_refl z] at this
    simp only [Bool.not_true, Bool.false_or] at this
    have := (Array.all_eq_true_iff_forall_mem.1 this) e he
    simp only [hb, Bool.not_true, Bool.false_or, Bool.not_eq_true'] at this
    exact this
  · have := (key i ops[i] (by simp [hi])).1.2
    rw [hz, hd] at this
    simp only [Bool.false_or] at this
    obtain ⟨k, _, hk⟩ := List.any_eq_true.1 this
    simp only [Bool.and_eq_true, Bool.or_eq_true] at hk
    obtain ⟨hk1, hk2⟩ := hk
    split at hk2
    · rename_i o ho
      obtain ⟨m, hm, hx⟩ := Array.any_eq_true.1 hk2
      simp only [Bool.and_eq_true] at hx
      refine ⟨k, o, ho, ?_, _, Array.getElem_mem hm, hx.1, Nat.eq_of_beq_eq_true hx.2⟩
      rcases hk1 with h | h
      · exact .inl (Nat.eq_of_beq_eq_true h)
      · simp only [Bool.not_eq_true'] at h
        exact .inr ⟨h.1, by simpa using h.2⟩
    · cases hk2
  · have := (key j ops[j] (by simp [hj])).2
    exact beq_iff_eq.1 this
  · have := List.all_eq_true.1 h4 j hj
    simpa using this
def orZ (listed : Array Bool) (Z : List Nat) : Array Bool := Z.foldl (fun l i => l.setIfInBounds i true) listed
theorem orZ_size : ∀ (Z : List Nat) (listed : Array Bool), (orZ listed Z).size = listed.size
  | [], _ => rfl
  | i :: r, l => by unfold orZ; rw [List.foldl_cons]; have := orZ_size r (l.setIfInBounds i true); unfold orZ at this; rw [this]; simp
theorem orZ_get {b : Bool} : ∀ (Z : List Nat) (listed : Array Bool) (j : Nat), j < listed.size → (orZ listed Z).getD j b = (listed.getD j b || Z.contains j)
  | [], l, j, _ => by simp [orZ]
  | i :: r, l, j, hj => by
    unfold orZ
    rw [List.foldl_cons]
    have := orZ_get (b := b) r (l.setIfInBounds i true) j (by simpa using hj)
    unfold orZ at this
    rw [this]
    by_cases h : i = j
    · subst h
      simp [hj]
    · rw [getD_set_ne b h]
      have : (i :: r).contains j = r.contains j := by
        rw [List.contains_cons, show (j == i) = false by simpa using fun e => h e.symm, Bool.false_or]
      rw [this]
theorem lst_orZ (ops : List Oper) (D Z : List Nat) : lst ops (D ++ Z) = orZ (lst ops D) Z := by unfold lst orZ; rw [List.foldl_append]
theorem lst_size (ops : List Oper) (D : List Nat) : (lst ops D).size = ops.length := by
  have := orZ_size D (Array.replicate ops.length false)
  unfold orZ at this
  unfold lst
  rw [this]; simp
theorem lst_get (ops : List Oper) (D : List Nat) {j : Nat} {b : Bool} (hj : j < ops.length) : (lst ops D).getD j b = D.contains j := by
  have := orZ_get (b := b) D (Array.replicate ops.length false) j (by simpa using hj)
  unfold orZ at this
  unfold lst
  rw [this]
  simp [hj]
def ClosedZ (ops : List Oper) (Z : List Nat) (listed : Array Bool) : Prop := ∀ (j : Nat) (o : Oper), ops[j]? = some o → Z.contains j = false → listed.getD j false = true → ∀ e ∈ o.after, Region.binds .any e = true → listed.getD e.on false = true
variable {Q Q' : Exit → Act → World → Prop} {S S' : World → Prop}
theorem gate_ready (hg : Gate ops z Z D) {listed : Array Bool} (hsz : listed.size = ops.length) {i : Nat} (hi : Z.contains i = false) : i ∈ Region.ready .any ops.toArray listed ↔ i ∈ Region.ready .any ops.toArray (orZ listed Z) := by
  rw [mem_ready, mem_ready]
  constructor
  · rintro ⟨h1, o, ho, h2⟩
    have hlt : i < listed.size := by rw [hsz]; simpa using (Array.getElem?_eq_some_iff.1 ho).1
    refine ⟨by rw [orZ_get Z listed i hlt, h1, hi]; rfl, o, ho, fun e he hb => ?_⟩
    have hd := hg.deps i o (by simpa using ho) hi e he hb
    rw [orZ_get Z listed e.on (by omega), h2 e he hb]; rfl
  · rintro ⟨h1, o, ho, h2⟩
    have hlt : i < listed.size := by rw [hsz]; simpa using (Array.getElem?_eq_some_iff.1 ho).1
    rw [orZ_get Z listed i hlt, hi, Bool.or_false] at h1
    refine ⟨h1, o, ho, fun e he hb => ?_⟩
    have hd := hg.deps i o (by simpa using ho) hi e he hb
    have := h2 e he hb
    rwa [orZ_get Z listed e.on (by omega), hd.1, Bool.or_false] at this
theorem gate_only (hg : Gate ops z Z D) {listed : Array Bool} (hsz : listed.size = ops.length) (hZ : ∀ j, Z.contains j = true → listed.getD j false = false) (hD : ∀ j, D.contains j = true → j < ops.length → listed.getD j false = true) (hc : ClosedZ ops Z listed) {i : Nat} (hi : i ∈ Region.ready .any ops.toArray listed) (hiz : Z.contains i = true) :
    i = z ∧ ∀ j, j < ops.length → Z.contains j = false → listed.getD j false = true := by
  obtain ⟨h1, o, ho, h2⟩ := mem_ready.1 hi
  have ho' : ops[i]? = some o := by simpa using ho
  have hz : i = z := Classical.byContradiction fun hne => by
    obtain ⟨e, he, hb, hez⟩ := hg.others i o ho' hiz hne
    have := h2 e he hb
    rw [hZ e.on hez] at this
    cases this
  subst hz
  refine ⟨rfl, ?_⟩
  have key : ∀ d j, ops.length - j ≤ d → j < ops.length → Z.contains j = false → listed.getD j false = true := by
    intro d
    induction d with
    | zero => intro j hd hj; omega
    | succ d ih =>
      intro j hd hj hjz
      cases hdj : D.contains j with
      | true => exact hD j hdj hj
      | false =>
        obtain ⟨k, o', ho2, hk, e, he, hb, rfl⟩ := hg.all j hj hjz hdj
        have hklt : k < ops.length := (List.getElem?_eq_some_iff.1 ho2).1
        rcases hk with rfl | ⟨hk1, hk2⟩
        · rw [ho'] at ho2
          cases ho2
          exact h2 e he hb
        · exact hc k o' ho2 hk1 (ih k (by omega) hklt hk1) e he hb
  exact fun j hj hjz => key ops.length j (by omega) hj hjz
theorem orZ_set (i : Nat) : ∀ (Z : List Nat) (l : Array Bool), (orZ l Z).setIfInBounds i true = orZ (l.setIfInBounds i true) Z
  | [], l => rfl
  | j :: r, l => by
    have ih := orZ_set i r (l.setIfInBounds j true)
    unfold orZ at ih ⊢
    rw [List.foldl_cons, List.foldl_cons, ih]
    by_cases h : j = i
    · subst h; rfl
    · rw [Array.setIfInBounds_comm true true h]
theorem wpAnyH_more {md : Region.Mode} {opsA : Array Oper} : ∀ (fuel : Nat) (listed : Array Bool) (a : Act) (w : World), wpAnyH P md opsA Q S fuel listed a w → wpAnyH P md opsA Q S (fuel + 1) listed a w
  | 0, listed, a, w, h => ⟨fun _ => h.2, by rw [h.1]; simp⟩
  | fuel + 1, _, _, _, h => ⟨h.1, fun i hi => wpOp_mono (fun a' w' h' => ⟨h'.1, wpAnyH_more fuel _ a' w' h'.2⟩) (h.2 i hi)⟩
theorem wpAnyH_add {md : Region.Mode} {opsA : Array Oper} {listed : Array Bool} {a : Act} {w : World} {fuel : Nat} (h : wpAnyH P md opsA Q S fuel listed a w) : ∀ k, wpAnyH P md opsA Q S (k + fuel) listed a w
  | 0 => by rwa [Nat.zero_add]
  | k + 1 => by rw [show k + 1 + fuel = (k + fuel) + 1 by omega]; exact wpAnyH_more _ _ _ _ (wpAnyH_add h k)
theorem gate_end (hg : Gate ops z Z D) {listed : Array Bool} (hsz : listed.size = ops.length) (hr : Region.ready .any ops.toArray (orZ listed Z) = []) : ∀ k j, j < k → j < ops.length → Z.contains j = false → listed.getD j false = true := by
  intro k
  induction k with
  | zero => intro j hj; omega
  | succ k ih =>
    intro j hjk hj hjz
    cases hx : listed.getD j false with
    | true => rfl
    | false =>
      have : j ∈ Region.ready .any ops.toArray (orZ listed Z) := by
        rw [← gate_ready hg hsz hjz, mem_ready]
        have hj' : j < listed.size := hsz ▸ hj
        refine ⟨by simp [hj'] at hx ⊢; exact hx, ops[j], by simp [hj], fun e he hb => ?_⟩
        have hd := hg.deps j ops[j] (by simp [hj]) hjz e he hb
        exact ih e.on (by omega) (by omega) hd.1
      rw [hr] at this; cases this
theorem any_gate (hg : Gate ops z Z D) (hN : ∀ e a w, Q' e a w → e = .normal) (hSS : ∀ w, S' w → S w) {g : Nat}
    (hK : ∀ (listed : Array Bool) a w, listed.size = ops.length → (∀ j, j < ops.length → listed.getD j false = !Z.contains j) → Q' .normal a w → wpAnyH P .any ops.toArray Q S g listed a w) :
    ∀ (fuel : Nat) (listed : Array Bool) (a : Act) (w : World), listed.size = ops.length → (∀ j, Z.contains j = true → listed.getD j false = false) → (∀ j, D.contains j = true → j < ops.length → listed.getD j false = true) → ClosedZ ops Z listed →
    wpAnyH P .any ops.toArray Q' S' fuel (orZ listed Z) a w → wpAnyH P .any ops.toArray Q S (fuel + g) listed a w := by
  have fin : ∀ (listed : Array Bool) (a : Act) (w : World), listed.size = ops.length → (∀ j, Z.contains j = true → listed.getD j false = false) → Region.ready .any ops.toArray (orZ listed Z) = [] → Q' .normal a w → ∀ k, wpAnyH P .any ops.toArray Q S (k + g) listed a w := by
    intro listed a w hsz hZ hr hq k
    refine wpAnyH_add (hK listed a w hsz (fun j hj => ?_) hq) k
    cases hz : Z.contains j with
    | true => exact hZ j hz
    | false => exact gate_end hg hsz hr ops.length j hj hj hz
  intro fuel
  induction fuel with
  | zero => intro listed a w hsz hZ _ _ h; exact fin listed a w hsz hZ h.1 h.2 0
  | succ fuel ih =>
    intro listed a w hsz hZ hD hcl h
    by_cases hr : Region.ready .any ops.toArray (orZ listed Z) = []
    · exact fin listed a w hsz hZ hr (h.1 hr) _
    · obtain ⟨j, hj⟩ := List.exists_mem_of_ne_nil _ hr
      obtain ⟨hj1, oj, hoj, _⟩ := mem_ready.1 hj
      have hjlt : j < ops.length := by simpa using (Array.getElem?_eq_some_iff.1 hoj).1
      rw [orZ_get Z listed j (by omega), Bool.or_eq_false_iff] at hj1
      rw [show fuel + 1 + g = (fuel + g) + 1 by omega]
      refine ⟨fun h0 => ?_, fun i hi => ?_⟩
      · have := (gate_ready hg hsz hj1.2).2 hj
        rw [h0] at this; cases this
      · have hiz : Z.contains i = false := by
          cases hx : Z.contains i with
          | false => rfl
          | true =>
            have := getD_tf ((gate_only hg hsz hZ hD hcl hi hx).2 j hjlt hj1.2)
            rw [this] at hj1
            cases hj1.1
        have hiz2 : ∀ k, Z.contains k = true → i ≠ k := fun k hk e => by rw [e, hk] at hiz; cases hiz
        have hcl2 : ClosedZ ops Z (listed.setIfInBounds i true) := by
          intro k o ho hkz hk e he hb
          by_cases hki : k = i
          · subst hki
            obtain ⟨_, o', ho', hd'⟩ := mem_ready.1 hi
            rw [show ops.toArray[k]? = ops[k]? by simp, ho] at ho'; cases ho'
            exact getD_set_true (hd' e he hb)
          · rw [getD_set_ne false (fun h => hki h.symm)] at hk
            exact getD_set_true (hcl k o ho hkz hk e he hb)
        refine wpOp_only hN (fun a' w' h' => ⟨hSS _ h'.1, ?_⟩) (h.2 i ((gate_ready hg hsz hiz).1 hi))
        have h2 := h'.2
        rw [orZ_set] at h2
        refine ih _ a' w' (by simpa using hsz) (fun k hk => ?_) (fun k hk hkl => getD_set_true (hD k hk hkl)) hcl2 h2
        rw [getD_set_ne false (hiz2 k hk)]
        exact hZ k hk
end
section
variable {P : Program} {n : Nat} {ops : List Oper} {Q : Post} {f : Frm} {C S : World → Prop}
def gpost (P : Program) (n : Nat) (ops : List Oper) (Q : Post) (done : List Nat) (S : World → Prop) : Post := fun e f w => e = .normal ∧ DW P n ops Q done S f (fun u => u = w)
theorem At.gate {done : List Nat} (h : DW P n ops Q done S f C) : At (gpost P n ops Q done S) .normal f C := fun w hw => ⟨rfl, fun u e => e ▸ h w hw⟩
theorem DW.gate (z : Nat) (Z A : List Nat) (S' : World → Prop) {done : List Nat} (hB : gateB ops z Z done A = true) (hcl : ∀ w, S' w → S w)
    (hc : (done.all fun j => match ops[j]? with | some o => o.after.all fun e => !Region.binds .any e || done.contains e.on | none => false) = true)
    (h : DW P n ops (gpost P n ops Q (done ++ A) S) (done ++ Z) S' f C) : DW P n ops Q done S f C := by
  obtain ⟨hg, hda, hlt, hlen⟩ := gateB_sound hB
  intro w hw a ha
  have h1 := h w hw a ha
  rw [lst_orZ] at h1
  have e1 : ops.length - done.length = (ops.length - (done ++ Z).length) + (ops.length - (done ++ A).length) := by
    simp only [List.length_append] at hlen ⊢; omega
  rw [e1]
  refine any_gate (Q' := lift n (only fun f w => gpost P n ops Q (done ++ A) S .normal f w)) hg (fun e a w ⟨_, _, he, _⟩ => he) hcl (fun listed a w hsz hl hq => ?_) _ _ _ _ (lst_size _ _) (fun j hj => ?_) (fun j hj hjl => ?_) (fun j o ho hjz hj e he hb => ?_) h1
  · obtain ⟨f', hf', _, _, hd⟩ := hq
    have e2 : listed = lst ops (done ++ A) := by
      refine Array.ext (by rw [hsz, lst_size]) fun j h1 h2 => ?_
      have hj : j < ops.length := by omega
      have h3 := hl j hj
      have h4 := lst_get ops (done ++ A) (b := false) hj
      rw [hda j hj, ← h3] at h4
      simp only [Array.getD_eq_getD_getElem?, Array.getElem?_eq_getElem h1, Array.getElem?_eq_getElem h2, Option.getD_some] at h4
      exact h4.symm
    rw [e2]
    exact hd w rfl a hf'
  · rw [lst_get ops done (hg.zlt j hj)]
    have := hda j (hg.zlt j hj)
    rw [hj] at this
    cases hx : done.contains j with
    | false => rfl
    | true => rw [List.contains_append, hx] at this; cases this
  · rw [lst_get ops done hjl]; exact hj
  · have hjl : j < ops.length := (List.getElem?_eq_some_iff.1 ho).1
    rw [lst_get ops done hjl] at hj
    have h5 := List.all_eq_true.1 hc j (by simpa using hj)
    rw [ho] at h5
    have h6 := (Array.all_eq_true_iff_forall_mem.1 h5) e he
    simp only [hb, Bool.not_true, Bool.false_or] at h6
    rw [lst_get ops done (by have := (hg.deps j o ho hjz e he hb).2; omega)]
    exact h6
end
theorem CW_fact {P : Program} {n : Nat} {c : Code} {Q : Post} {f : Frm} {C : World → Prop} {φ : Prop} (h : ∀ w, C w → φ) (k : φ → CW P n c Q f C) : CW P n c Q f C := fun w hw => k (h w hw) w hw
section
variable {α : Type} {f : α → List Value} {n : Nat}
theorem flat_set (hf : ∀ x, (f x).length = n) : ∀ (l : List α) (x : α) (k : Nat), k < l.length → (l.set k x).flatMap f = (l.flatMap f).take (k * n) ++ f x ++ (l.flatMap f).drop (k * n + n)
  | y :: r, x, 0, _ => by
    have hy := hf y
    simp only [List.set_cons_zero, List.flatMap_cons, Nat.zero_mul, List.take_zero, List.nil_append, Nat.zero_add]
    rw [List.drop_append, List.drop_of_length_le (l := f y) (by omega), hy, Nat.sub_self]
    rfl
  | y :: r, x, k + 1, h => by
    have hy := hf y
    have ih := flat_set hf r x k (by simpa using h)
    simp only [List.set_cons_succ, List.flatMap_cons]
    have hk : (k + 1) * n = k * n + n := by rw [Nat.add_mul, Nat.one_mul]
    have e1 : (f y ++ r.flatMap f).take ((k + 1) * n) = f y ++ (r.flatMap f).take (k * n) := by
      rw [List.take_append, List.take_of_length_le (l := f y) (by rw [hy]; omega), hy, show (k + 1) * n - n = k * n by omega]
    have e2 : (f y ++ r.flatMap f).drop ((k + 1) * n + n) = (r.flatMap f).drop (k * n + n) := by
      rw [List.drop_append, List.drop_of_length_le (l := f y) (by rw [hy]; omega), hy, show (k + 1) * n + n - n = k * n + n by omega, List.nil_append]
    rw [ih, e1, e2]
    simp
theorem splice_rows (hf : ∀ x, (f x).length = n) (l : List α) (x : α) {k : Nat} (h : k < l.length) : splice (l.flatMap f) (k * n) (f x) = (l.set k x).flatMap f := by
  unfold splice
  rw [flat_set hf l x k h, hf x]
theorem rows_store {P : Program} {T E : TypeId} {m : Nat} (hs : Sz P T m) (hf : ∀ x, (f x).length = m) (h1 : ∀ x, (f x).all Value.oneCell' = true) {b o N c q : Nat} {l : List α} (x : α) {k : Nat} (hk : k < l.length) (hq : q = o + k * m) :
    Stores P T ⟨b, q, none⟩ (.agg (f x).toArray) (osl (.slice (some ⟨b, o, none⟩) N c) E m N (l.flatMap f)) (osl (.slice (some ⟨b, o, none⟩) N c) E m N ((l.set k x).flatMap f)) := by
  subst hq
  have st := Stores.osl (P := P) (T := T) (q := m) (b := b) (o := o) (i := k * m) (n := N) (c := c) (v := .agg (f x).toArray) (vs := f x) (xs := l.flatMap f) (E := E) (sz := m) hs rfl (h1 x) (hf x) (by
    rw [Go.Hb.rows_len hf, hf x]
    have : (k + 1) * m ≤ l.length * m := Nat.mul_le_mul_right _ hk
    rw [Nat.add_mul, Nat.one_mul] at this
    exact this)
  rwa [splice_rows hf l x hk] at st
theorem rows_all_one (h1 : ∀ x, (f x).all Value.oneCell' = true) : ∀ (l : List α), (l.flatMap f).all Value.oneCell' = true
  | [] => rfl
  | x :: r => by rw [List.flatMap_cons, List.all_append, h1 x, rows_all_one h1 r]; rfl
end
end Go.Hb

namespace Go.Hb
section
variable {α : Type} {f : α → Asrt} {w0 w : World} {F : Nat → Prop} {R : List Asrt} {x : α} {l : List α}
end
end Go.Hb

namespace Go.Hb
section
variable {w0 w : World} {F : Nat → Prop} {L L' : List Asrt}
def ownsAt (w : World) (E : TypeId) (sz : Nat) (v : Value) (n : Nat) (xs : List Value) : Prop :=
  xs.length = n * sz ∧ ((v = .slice none 0 0 ∧ n = 0) ∨
   ∃ g o cap cur, v = .slice (some ⟨g, o, none⟩) n cap ∧ w.heap[g]? = some (.cells cur E (0, 0)) ∧ n ≤ cap ∧ cap ≤ maxLen ∧ o + cap * sz ≤ cur.size ∧ (cur.toList.drop o).take (n * sz) = xs)
def odl (v : Value) (E : TypeId) (sz n : Nat) (xs : List Value) : Asrt := .ex (fun k => v.ownBlock = some k) (fun w => ownsAt w E sz v n xs)
theorem odl.dep (v : Value) (E : TypeId) (sz n : Nat) (xs : List Value) : (odl v E sz n xs).dep := by
  intro w w' hk h
  refine ⟨h.1, ?_⟩
  rcases h.2 with hn | ⟨g, o, cap, cur, rfl, hg, r⟩
  · exact .inl hn
  · refine .inr ⟨g, o, cap, cur, rfl, ?_, r⟩
    rw [hk g rfl]; exact hg
end
section
variable {P : Program} {f : Frm} {T T' : TypeId} {s x y : Operand} {v : Value} {w0 : World} {F : Nat → Prop} {L : List Asrt} {C : World → Prop}
variable {n : Nat} {ops rest : List Oper} {Q : Post} {p : String} {af : Array Edge} {d : Nat}
end
section
variable {α : Type} {f : α → Asrt} {w0 w : World} {F : Nat → Prop} {R : List Asrt} {x : α} {l r : List α}
end
theorem splice_take {D vs : List Value} {i N : Nat} (h : i + vs.length ≤ N) (hN : N ≤ D.length) : (splice D i vs).take N = splice (D.take N) i vs := by
  have e2 : splice D i vs = splice (D.take N) i vs ++ D.drop N := by
    have e3 : D = D.take N ++ D.drop N := (List.take_append_drop N D).symm
    have hl : (D.take N).length = N := by simp; omega
    conv => lhs; rw [e3]
    unfold splice
    rw [List.take_append_of_le_length (by omega), List.drop_append_of_le_length (by omega)]
    simp
  have e4 : (splice (D.take N) i vs).length = N := by simp [splice]; omega
  rw [e2, List.take_append_of_le_length (by omega), List.take_of_length_le (by omega)]
theorem splice_drop {D vs : List Value} {o i : Nat} (h : o + i ≤ D.length) : (splice D (o + i) vs).drop o = splice (D.drop o) i vs := by
  unfold splice
  rw [List.append_assoc, List.drop_append, List.drop_take, List.length_take, show o - min (o + i) D.length = 0 by omega, List.drop_zero, show o + i - o = i by omega, List.drop_drop, List.append_assoc, Nat.add_assoc]
theorem Stores.odl {P : Program} {T : TypeId} {q b o i n c : Nat} {v : Value} {vs xs : List Value} {E : TypeId} {sz : Nat} (h : Sz P T q) (hv : v.cells = vs.toArray) (h1 : vs.all Value.oneCell' = true) (hm : vs.length = q) (hb : i + vs.length ≤ xs.length) :
    Stores P T ⟨b, o + i, none⟩ v (odl (.slice (some ⟨b, o, none⟩) n c) E sz n xs) (odl (.slice (some ⟨b, o, none⟩) n c) E sz n (splice xs i vs)) := by
  intro w hw
  have hw' : ownsAt w E sz (.slice (some ⟨b, o, none⟩) n c) n xs := hw
  obtain ⟨hl, hr⟩ := hw'
  rcases hr with ⟨he, _⟩ | ⟨g, o', cap, cur, he, hg, hnc, hcm, hcs, htake⟩
  · cases he
  simp only [Value.slice.injEq, Option.some.injEq, Addr.mk.injEq, and_true, true_and] at he
  obtain ⟨⟨rfl, rfl⟩, rfl⟩ := he
  have hmul : n * sz ≤ c * sz := Nat.mul_le_mul_right _ hnc
  have hg' : w.heap[b]? = some (.cells cur.toList.toArray E (0, 0)) := by simpa using hg
  have hsz : cur.toList.length = cur.size := Array.length_toList
  have hrun := run_storeVar (P := P) h w b (o + i) v vs cur.toList E hv hm hg' (by omega) h1
  refine ⟨_, hrun, ⟨Keep.setRow w b _ _ E hg' rfl, ?_, fun k hk => .inl hk⟩⟩
  refine ⟨by simp [splice]; omega, .inr ⟨b, o, c, (splice cur.toList (o + i) vs).toArray, rfl, setRow_heap w b _ _ E (0, 0) hg', hnc, hcm, ?_, ?_⟩⟩
  · simp [splice]; omega
  · show ((splice cur.toList (o + i) vs).drop o).take (n * sz) = splice xs i vs
    rw [splice_drop (by omega), splice_take (by omega) (by simp; omega), htake]
end Go.Hb

namespace Go.Hb
section
variable {P : Program} {f : Frm} {T T' T'' : TypeId} {x y : Operand} {C : World → Prop} {w0 w : World} {F : Nat → Prop} {L L' : List Asrt}
class MapT (P : Program) (T : TypeId) : Prop where
  ex : ∃ k e, P.underlying T = some (.map k e)
theorem equalIn_map (w : World) (d : Nat) {t k e : TypeId} {r : Option Nat} (h : P.underlying t = some (.map k e)) : (Op.equalIn (d + 1) t (.map r) (.map none)).run P w = .ok r.isNone w := by
  cases r <;> simp [Op.equalIn, run_underlying h]
theorem Ev.map_nil [h : MapT P T'] {r : Option Nat} (hx : f.ev x = .map r) (hy : f.ev y = .map none) : Ev P C f (.binOp .eql T' x y T'') T (.bool r.isNone) :=
  ev_eql_of (fun w => by rw [hx, hy]; rfl) (by rw [hx, hy]; rfl) (fun w => by
    obtain ⟨k, e, hu⟩ := h.ex
    rw [hx, hy]
    exact equalIn_map w _ hu)
end
end Go.Hb

namespace Go.Proofs.Ytgblmkpfkcibiaa
open Go.Hb
attribute [local irreducible] LR CW At Ev thn blk finK noG again CallsTo DW QL dnext TW DP gpost
set_option maxRecDepth 100000

def cmpM (x y : Int) : Int := if x < y then -1 else if y < x then 1 else 0
theorem m91 (x : Int) (w : World) : CallsTo Try.prog 91 [.int .i64 x] w fun v w' => v = .bool false ∧ Grew w w' := by
  refine go_in (n := 6) (St.refl _ NoF) Try.func91 rfl rfl ?_
  repeat'(first|refine kv' ?_|apply jJ|refine jE' ?_|refine jp' ?_|(apply jc;kernel_rfl)|refine kg' ?_|refine kG' ?_|refine kB' fun _=>?_|refine kA' fun _=>?_|refine kK' fun _=>?_|refine kU' ?_|((first|refine kR' ?_ ?_|refine kQ' ?_ ?_);all_goals(intro hc;try simp only[hcs]at hc;try(exfalso;first|contradiction|omega))))
  (apply ret1; (· exact rfl); intro w' hS)
  exact ⟨congrArg Value.bool (by simp), hS⟩
theorem m69 (x y : Int) (w : World) : CallsTo Try.prog 69 [.int .i64 x, .int .i64 y] w fun v w' => v = .int .i64 (cmpM x y) ∧ Grew w w' := by
  refine go_in (n := 20) (St.refl _ NoF) Try.func69 rfl rfl ?_
  repeat'(first|refine kv' ?_|apply jJ|refine jE' ?_|refine jp' ?_|(apply jc;kernel_rfl)|refine kg' ?_|refine kG' ?_|refine kB' fun _=>?_|refine kA' fun _=>?_|refine kK' fun _=>?_|refine kU' ?_|(apply kq;(·exact rfl);(·intro w1 h1;exact CallsTo.q (m91 _ w1) h1))|((first|refine kR' ?_ ?_|refine kQ' ?_ ?_);all_goals(intro hc;try simp only[hcs]at hc;try(exfalso;first|contradiction|omega))))
  all_goals (
    (apply ret1; (· exact rfl); intro w' hS)
    refine ⟨congrArg (Value.int .i64) ?_, hS⟩
    unfold cmpM; split <;> (try split) <;> omega)
theorem m85 (x y : Plc) (w : World) : CallsTo Try.prog 85 [x.val, y.val] w fun v w' => v = .int .i64 (cmpM x.ring y.ring) ∧ Grew w w' := by
  refine go_in (n := 10) (St.refl _ NoF) Try.func85 rfl rfl ?_
  repeat'(first|refine kv' ?_|apply jJ|refine jE' ?_|refine jp' ?_|(apply jc;kernel_rfl)|refine kg' ?_|refine kG' ?_|refine kB' fun _=>?_|refine kA' fun _=>?_|refine kK' fun _=>?_|refine kU' ?_|(apply kq;(·exact rfl);(·intro w1 h1;exact CallsTo.q (m69 _ _ w1) h1))|((first|refine kR' ?_ ?_|refine kQ' ?_ ?_);all_goals(intro hc;try simp only[hcs]at hc;try(exfalso;first|contradiction|omega))))
  (apply ret1; (· exact rfl); intro w' hS)
  exact ⟨rfl, hS.toKeep⟩
def zP : Plc := ⟨0, 0, 0, 0⟩
def cutP (l : List Plc) (x : Plc) : Nat → Nat
  | 0 => 0
  | k + 1 => if x.ring < (l.getD k zP).ring then cutP l x k else k + 1
theorem cutP_le (l : List Plc) (x : Plc) : ∀ k, cutP l x k ≤ k
  | 0 => Nat.le_refl _
  | k + 1 => by unfold cutP; split; (have := cutP_le l x k; omega); omega
def putP (l : List Plc) (x : Plc) : List Plc := l.take (cutP l x l.length) ++ x :: l.drop (cutP l x l.length)
theorem putP_len (l : List Plc) (x : Plc) : (putP l x).length = l.length + 1 := by
  have := cutP_le l x l.length
  unfold putP
  rw [List.length_append, List.length_cons, List.length_take, List.length_drop]
  omega
def isP (l : List Plc) : List Plc := l.foldl putP []
theorem isP_snoc (l : List Plc) (x : Plc) : isP (l ++ [x]) = putP (isP l) x := by unfold isP; rw [List.foldl_append]; rfl
theorem isP_len (l : List Plc) : (isP l).length = l.length := by
  have : ∀ (l m : List Plc), (l.foldl putP m).length = m.length + l.length := by
    intro l
    induction l with
    | nil => intro m; rfl
    | cons x r ih => intro m; rw [List.foldl_cons, ih, putP_len, List.length_cons]; omega
  have h := this l []
  simpa [isP] using h
theorem isP_take {B : List Plc} {k : Nat} (h : k < B.length) : isP (B.take (k + 1)) = putP (isP (B.take k)) B[k] := by
  rw [List.take_add_one, List.getElem?_eq_getElem h]; exact isP_snoc _ _
def onP (A S : List Plc) (x : Plc) (R : List Plc) (j : Nat) : List Plc := A ++ (S.take j ++ x :: (S.drop j ++ R))
theorem onP_len (A S R : List Plc) (x : Plc) {j : Nat} (h : j ≤ S.length) : (onP A S x R j).length = A.length + S.length + 1 + R.length := by
  unfold onP
  simp only [List.length_append, List.length_cons, List.length_take, List.length_drop]
  omega
theorem onP_at (A S R : List Plc) (x : Plc) {j : Nat} (h : j ≤ S.length) : (onP A S x R j)[A.length + j]? = some x := by
  unfold onP
  rw [List.getElem?_append_right (by omega), Nat.add_sub_cancel_left, List.getElem?_append_right (by rw [List.length_take]; omega), List.length_take, Nat.min_eq_left h, Nat.sub_self]
  rfl
theorem onP_before (A S R : List Plc) (x : Plc) {j : Nat} (h : j < S.length) : (onP A S x R (j + 1))[A.length + j]? = some S[j] := by
  unfold onP
  rw [List.getElem?_append_right (by omega), Nat.add_sub_cancel_left, List.getElem?_append_left (by rw [List.length_take]; omega), List.getElem?_take_of_lt (by omega), List.getElem?_eq_getElem h]
theorem onP_swap (A S R : List Plc) (x : Plc) {j : Nat} (h : j < S.length) : ((onP A S x R (j + 1)).set (A.length + j + 1) S[j]).set (A.length + j) x = onP A S x R j := by
  unfold onP
  have e1 : S.take (j + 1) = S.take j ++ [S[j]] := by rw [List.take_add_one, List.getElem?_eq_getElem h]; rfl
  have e2 : S.drop j = S[j] :: S.drop (j + 1) := List.drop_eq_getElem_cons h
  have hl : (S.take j).length = j := by rw [List.length_take]; omega
  rw [e1, e2, List.set_append_right _ _ (by omega), List.set_append_right _ _ (by omega)]
  rw [show A.length + j + 1 - A.length = j + 1 by omega, show A.length + j - A.length = j by omega]
  simp only [List.append_assoc, List.cons_append, List.nil_append]
  rw [List.set_append_right _ _ (by omega), List.set_append_right _ _ (by omega), hl, Nat.sub_self, show j + 1 - j = 1 by omega]
  rfl
theorem plc_len (p : Plc) : p.cells.length = 4 := rfl
theorem plc_one (p : Plc) : p.cells.all Value.oneCell' = true := rfl
abbrev pN (a : Option Addr) (n c : Nat) (D : List Plc) : Asrt := osl (.slice a n c) 44 4 n (pcs D)
theorem pcs_cell {w : World} {b o : Nat} {D : List Plc} {k : Nat} {x : Plc} (h : Rd w (some ⟨b, o, none⟩) (pcs D)) (hx : D[k]? = some x) {q : Nat} (hq : q = o + k * 4) : ∀ j v, (Plc.cells x)[j]? = some v → w.cell? ((⟨b, q, none⟩ : Addr).add j) = some v := by
  intro j v hj
  have hk : k < D.length := (List.getElem?_eq_some_iff.1 hx).1
  have e : D[k] = x := by rw [List.getElem?_eq_getElem hk] at hx; simpa using hx
  rw [hq]
  have h9 := rd_row (f := Plc.cells) (l := D) (i := k) (q := k * 4) plc_len h hk rfl j v
  rw [e] at h9
  exact h9 hj
theorem put_plc {b o n c q : Nat} {l : List Plc} (x : Plc) {k : Nat} (hk : k < l.length) (hq : q = o + k * 4) :
    Stores Try.prog 44 ⟨b, q, none⟩ x.val (pN (some ⟨b, o, none⟩) n c l) (pN (some ⟨b, o, none⟩) n c (l.set k x)) :=
  rows_store (P := Try.prog) (T := 44) (E := 44) (f := Plc.cells) inferInstance plc_len plc_one x hk hq
def sorP (D : List Plc) (lo k : Nat) : List Plc := D.take lo ++ (isP ((D.drop lo).take k) ++ D.drop (lo + k))
theorem sorP_len (D : List Plc) {lo k : Nat} (h : lo + k ≤ D.length) : (sorP D lo k).length = D.length := by
  unfold sorP
  simp only [List.length_append, List.length_take, List.length_drop, isP_len]
  omega
theorem sorP_one (D : List Plc) {lo : Nat} (h : lo < D.length) : sorP D lo 1 = D := by
  unfold sorP
  have e : (D.drop lo).take 1 = [D[lo]] := by rw [List.drop_eq_getElem_cons h]; rfl
  have e2 : isP [D[lo]] = [D[lo]] := rfl
  rw [e, e2, ← e, ← List.drop_drop, List.take_append_drop, List.take_append_drop]
theorem sorP_on {D : List Plc} {lo k : Nat} (h : lo + k < D.length) : sorP D lo k = onP (D.take lo) (isP ((D.drop lo).take k)) D[lo + k] (D.drop (lo + k + 1)) k := by
  unfold sorP onP
  have hl : (isP ((D.drop lo).take k)).length = k := by rw [isP_len, List.length_take, List.length_drop]; omega
  rw [List.take_of_length_le (l := isP ((D.drop lo).take k)) (by omega), List.drop_of_length_le (l := isP ((D.drop lo).take k)) (by omega), List.nil_append, ← List.drop_eq_getElem_cons h]
theorem sorP_next {D : List Plc} {lo k j : Nat} (h : lo + k < D.length) (hj : cutP (isP ((D.drop lo).take k)) D[lo + k] k = j) : onP (D.take lo) (isP ((D.drop lo).take k)) D[lo + k] (D.drop (lo + k + 1)) j = sorP D lo (k + 1) := by
  have hl : (isP ((D.drop lo).take k)).length = k := by rw [isP_len, List.length_take, List.length_drop]; omega
  have hk : k < (D.drop lo).length := by rw [List.length_drop]; omega
  unfold sorP
  rw [isP_take hk]
  have e : (D.drop lo)[k] = D[lo + k] := by rw [List.getElem_drop]
  rw [e]
  unfold putP onP
  rw [hl, hj]
  simp only [List.append_assoc, List.cons_append, Nat.add_assoc]
end Go.Proofs.Ytgblmkpfkcibiaa

namespace Go.Proofs.Ytgblmkpfkcibiaa
open Go.Hb
attribute [local irreducible] LR CW At Ev thn blk finK noG again CallsTo DW QL dnext TW DP gpost
set_option maxRecDepth 100000

set_option maxHeartbeats 2000000 in
theorem m127 (a : Option Addr) (c : Nat) (D : List Plc) (lo hi : Nat) (w : World) (h : (pN a D.length c D).holds w) (hlo : lo ≤ hi) (hhi : hi ≤ D.length) (hn : D.length ≤ 140737488355328) :
    CallsTo Try.prog 127 [.slice a D.length c, .int .i64 lo, .int .i64 hi, .func (.func 85) #[] #[]] w fun v w' => v = .tuple #[] ∧ Step (pN a D.length c D) (pN a D.length c (sorP D lo (hi - lo))) w w' := by
  have hS0 : St w (pN a D.length c D).foot [pN a D.length c D] w := St.one h (fun k hk => (World.ownsRow.lt h k hk).2) (osl.dep _ _ _ _ _)
  generalize hF : (pN a D.length c D).foot = F at *
  refine go_in (n := 53) hS0 Try.func127 rfl rfl ?_
  have hadd : ∀ k : Nat, ((lo : Int) + (k : Int)) = ((lo + k : Nat) : Int) := fun k => by omega
  repeat'(first|refine kv' ?_|apply jJ|refine jE' ?_|refine jp' ?_|(apply jc;kernel_rfl)|refine kg' ?_|refine kG' ?_|refine kB' fun _=>?_|refine kA' fun _=>?_|refine kK' fun _=>?_|refine kU' ?_|(apply addX;(iterate 2 exact rfl);(iterate 2(first|omega|(dsimp only;omega)));exact rfl)|((first|refine kR' ?_ ?_|refine kQ' ?_ ?_);all_goals(intro hc;try simp only[hcs]at hc;try(exfalso;first|contradiction|omega))))
  apply CW.loop [8, 9, 12, 13, 14, 15, 16, 17, 18, 19, 20, 21, 22, 23, 24, 25, 26, 27, 28, 29, 30, 31, 32, 33, 34, 35, 36, 37, 38, 39, 40, 41, 42, 43, 44, 45, 46, 47, 48, 49, 50, 51, 52] (fun k : Nat => 1 ≤ k ∧ (k ≤ hi - lo ∨ k = 1)) (fun k => [(8, .int .i64 ((lo + k : Nat) : Int))])
    (fun k => St w F [pN a D.length c (sorP D lo k)]) (fun k => hi - lo - k)
  · refine fun w' hw' => ⟨1, ⟨by omega, .inr rfl⟩, ⟨?_, trivial⟩, ?_⟩
    · exact congrArg (Value.int .i64) (by omega)
    · rcases Nat.lt_or_ge lo D.length with hl | hl
      · rw [sorP_one D hl]; exact hw'
      · have e : sorP D lo 1 = D := by
          unfold sorP
          rw [List.drop_of_length_le hl, List.drop_of_length_le (by omega), List.take_of_length_le hl]
          simp [isP]
        rw [e]; exact hw'
  rintro k g1 ⟨hk1, hk2⟩
  by_cases hlt : lo + k < hi
  · have hlk : lo + k < D.length := by omega
    refine CW_fact (φ := ∃ ba oa, a = some ⟨ba, oa, none⟩) (fun w1 hw1 => (ownsRow_rd (hw1.holds (pN a D.length c (sorP D lo k)) memZ)).form (fun e => by have h1 := congrArg List.length e; rw [pcs_length, sorP_len D (by omega), List.length_nil] at h1; omega)) ?_
    rintro ⟨ba, oa, rfl⟩
    obtain ⟨A, hA⟩ : ∃ A, A = D.take lo := ⟨_, rfl⟩
    obtain ⟨S, hSS⟩ : ∃ S, S = isP ((D.drop lo).take k) := ⟨_, rfl⟩
    obtain ⟨R, hR⟩ : ∃ R, R = D.drop (lo + k + 1) := ⟨_, rfl⟩
    obtain ⟨x, hx⟩ : ∃ x, x = D[lo + k] := ⟨_, rfl⟩
    have hon := sorP_on hlk
    have hne : ∀ j, cutP (isP ((D.drop lo).take k)) D[lo + k] k = j → _ := fun j hj => sorP_next hlk hj
    rw [← hA, ← hSS, ← hR, ← hx] at hon
    rw [← hA, ← hSS, ← hR, ← hx] at hne
    have hAl : A.length = lo := by rw [hA, List.length_take]; omega
    have hSl : S.length = k := by rw [hSS, isP_len, List.length_take, List.length_drop]; omega
    have hRl : R.length = D.length - (lo + k + 1) := by rw [hR, List.length_drop]
    rw [hon]
    repeat'(first|refine kv' ?_|apply jJ|refine jE' ?_|refine jp' ?_|(apply jc;kernel_rfl)|refine kg' ?_|refine kG' ?_|refine kB' fun _=>?_|refine kA' fun _=>?_|refine kK' fun _=>?_|refine kU' ?_|((first|refine kR' ?_ ?_|refine kQ' ?_ ?_);all_goals(intro hc;try simp only[hcs]at hc;try(exfalso;first|contradiction|omega))))
    apply CW.loop [9, 18, 19, 20, 21, 22, 23, 24, 25, 26, 27, 28, 29, 30, 31, 32, 33, 34, 35, 36, 37, 38, 39, 40, 41, 42, 43, 44, 45, 46, 47, 48, 49, 50, 51, 52] (fun j : Nat => j ≤ k ∧ cutP S x k = cutP S x j) (fun j => [(9, .int .i64 ((lo + j : Nat) : Int))])
      (fun j => St w F [pN (some ⟨ba, oa, none⟩) D.length c (onP A S x R j)]) (fun j => j)
    · exact fun w' hw' => ⟨k, ⟨by omega, rfl⟩, ⟨rfl, trivial⟩, hw'⟩
    rintro j g2 ⟨hj, hcut⟩
    cases j with
    | zero =>
      have hc0 : cutP S x k = 0 := hcut
      repeat'(first|(apply CW.reg_heldC)|refine kv' ?_|apply jJ|refine jE' ?_|refine jp' ?_|(apply jc;kernel_rfl)|refine kg' ?_|refine kG' ?_|refine kB' fun _=>?_|refine kA' fun _=>?_|refine kK' fun _=>?_|refine kU' ?_|((first|refine kR' ?_ ?_|refine kQ' ?_ ?_);all_goals(intro hc;try simp only[hcs]at hc;try(exfalso;first|contradiction|omega))))
      all_goals (
        apply DW.quiet [0, 1, 2, 3, 4, 5, 6, 7, 8, 9, 10, 11, 12, 13]
        · decide +kernel
        · first | exact fun _ h => h | exact fun _ h => St.sub h subZ
        repeat'(first|refine yv' ?_|refine uv' ?_|refine un' ?_|(refine us' ?_ ?_;all_goals(intro hc;try simp only[hcs]at hc;try(exfalso;first|contradiction|omega)))|apply QL.nil)
        all_goals (show DW _ _ _ _ _ _ _ _))
      all_goals (
        apply DW.loud 14
        · exact rfl
        · decide +kernel
        repeat'(first|refine kg' ?_|refine kG' ?_|apply kM|refine kv' ?_|refine kK' fun _=>?_|refine kU' ?_|refine kB' fun _=>?_|refine kA' fun _=>?_)
        all_goals (refine At.stage_same (fun _ h => St.sub h subZ) ?_))
      all_goals (
        apply DW.quiet [15, 16]
        · decide +kernel
        · first | exact fun _ h => h | exact fun _ h => St.sub h subZ
        repeat'(first|refine yv' ?_|refine uv' ?_|refine un' ?_|(refine us' ?_ ?_;all_goals(intro hc;try simp only[hcs]at hc;try(exfalso;first|contradiction|omega)))|apply QL.nil)
        all_goals (show DW _ _ _ _ _ _ _ _))
      all_goals (first | (apply DW.done_thn; (· decide +kernel)) | (apply DW.done; (· decide +kernel)))
      repeat'(first|refine kv' ?_|apply jJ|refine jE' ?_|refine jp' ?_|(apply jc;kernel_rfl)|refine kg' ?_|refine kG' ?_|refine kB' fun _=>?_|refine kA' fun _=>?_|refine kK' fun _=>?_|refine kU' ?_|(apply addX;(iterate 2 exact rfl);(iterate 2(first|omega|(dsimp only;omega)));exact rfl)|((first|refine kR' ?_ ?_|refine kQ' ?_ ?_);all_goals(intro hc;try simp only[hcs]at hc;try(exfalso;first|contradiction|omega))))
      refine At.again (k + 1) ⟨by omega, .inl (by omega)⟩ ?_ ⟨?_, trivial⟩ (fun w' hw' => ?_) (by omega)
      · (repeat (first | exact Out.refl _ _ | exact Out.mix | (apply Out.upd; (· exact rfl)) | (apply Out.updL; (· exact rfl)) | (apply Out.mixs; (· exact rfl))))
      · exact congrArg (Value.int .i64) (by omega)
      · rw [← hne 0 hc0]; exact hw'
    | succ j =>
      have hjS : j < S.length := by omega
      obtain ⟨y, hy⟩ : ∃ y, S[j] = y := ⟨_, rfl⟩
      have hat1 := onP_at A S R x (j := j + 1) (by omega)
      have hat0 := onP_before A S R x hjS
      have hsw := onP_swap A S R x hjS
      have hol := onP_len A S R x (j := j + 1) (by omega)
      rw [hy] at hat0 hsw
      rw [hAl] at hat1 hat0 hsw
      have hcc : cutP S x (j + 1) = if x.ring < y.ring then cutP S x j else j + 1 := by
        show (if x.ring < (S.getD j zP).ring then cutP S x j else j + 1) = _
        rw [List.getD_eq_getElem?_getD, List.getElem?_eq_getElem hjS, hy]; rfl
      repeat'(first|(apply CW.reg_heldC)|refine kv' ?_|apply jJ|refine jE' ?_|refine jp' ?_|(apply jc;kernel_rfl)|refine kg' ?_|refine kG' ?_|refine kB' fun _=>?_|refine kA' fun _=>?_|refine kK' fun _=>?_|refine kU' ?_|((first|refine kR' ?_ ?_|refine kQ' ?_ ?_);all_goals(intro hc;try simp only[hcs]at hc;try(exfalso;first|contradiction|omega))))
      all_goals (
        apply DW.quiet [0, 1, 2, 3, 4, 5, 6, 7, 8, 9, 10, 11, 12, 13]
        · decide +kernel
        · first | exact fun _ h => h | exact fun _ h => St.sub h subZ
        repeat'(first|refine yv' ?_|(first | (apply QL.evg; (iterate 3 exact rfl); (· first | (apply Ev.indexAddr; (· exact rfl); (· exact rfl); (· omega); (· omega)) | (apply Ev.load_agg_at (cs := Plc.cells x); (· exact rfl); (· exact rfl); (· intro w' hw'; refine pcs_cell (hw'.rd_of_own memZ) hat1 ?_; (· omega))) | (apply Ev.load_agg_at (cs := Plc.cells y); (· exact rfl); (· exact rfl); (· intro w' hw'; refine pcs_cell (hw'.rd_of_own memZ) hat0 ?_; (· omega))) | (apply Ev.sub; (· exact rfl); (· exact rfl); (· omega); (· omega))); (· exact rfl)))|refine uv' ?_|refine un' ?_|(refine us' ?_ ?_;all_goals(intro hc;try simp only[hcs]at hc;try(exfalso;first|contradiction|omega)))|apply QL.nil)
        all_goals (show DW _ _ _ _ _ _ _ _))
      all_goals (
        apply DW.loud 14
        · exact rfl
        · decide +kernel
        repeat'(first|refine kg' ?_|refine kG' ?_|apply kM|refine kv' ?_|refine kK' fun _=>?_|refine kU' ?_|refine kB' fun _=>?_|refine kA' fun _=>?_|(apply LR.qcall_val (g := 85) (cap := []) (v := .int .i64 (cmpM x.ring y.ring)); (· exact rfl); (· exact rfl); (· intro w1 h1; exact CallsTo.q (m85 x y w1) h1)))
        all_goals (refine At.stage_same (fun _ h => St.sub h subZ) ?_))
      all_goals (
        apply DW.quiet [15, 16]
        · decide +kernel
        · first | exact fun _ h => h | exact fun _ h => St.sub h subZ
        repeat'(first|refine yv' ?_|(first | (apply QL.evg; (iterate 3 exact rfl); (· first | (apply Ev.indexAddr; (· exact rfl); (· exact rfl); (· omega); (· omega)) | (apply Ev.load_agg_at (cs := Plc.cells x); (· exact rfl); (· exact rfl); (· intro w' hw'; refine pcs_cell (hw'.rd_of_own memZ) hat1 ?_; (· omega))) | (apply Ev.load_agg_at (cs := Plc.cells y); (· exact rfl); (· exact rfl); (· intro w' hw'; refine pcs_cell (hw'.rd_of_own memZ) hat0 ?_; (· omega))) | (apply Ev.sub; (· exact rfl); (· exact rfl); (· omega); (· omega))); (· exact rfl)))|refine uv' ?_|refine un' ?_|(refine us' ?_ ?_;all_goals(intro hc;try simp only[hcs]at hc;try(exfalso;first|contradiction|omega)))|apply QL.nil)
        all_goals (show DW _ _ _ _ _ _ _ _))
      all_goals (first | (apply DW.done_thn; (· decide +kernel)) | (apply DW.done; (· decide +kernel)))
      rw [show decide (cmpM x.ring y.ring < 0) = decide (x.ring < y.ring) by
        rw [decide_eq_decide]; unfold cmpM; split <;> (try split) <;> omega]
      by_cases hlt2 : x.ring < y.ring
      · rw [if_pos hlt2] at hcc
        rw [decide_eq_true hlt2]
        repeat'(first|(apply CW.reg_held (fun _ => True))|refine kv' ?_|apply jJ|refine jE' ?_|refine jp' ?_|(apply jc;kernel_rfl)|refine kg' ?_|refine kG' ?_|refine kB' fun _=>?_|refine kA' fun _=>?_|refine kK' fun _=>?_|refine kU' ?_|((first|refine kR' ?_ ?_|refine kQ' ?_ ?_);all_goals(intro hc;try simp only[hcs]at hc;try(exfalso;first|contradiction|omega))))
        apply DW.quiet [2, 3, 4]
        · decide +kernel
        · exact fun _ _ => trivial
        repeat'(first|refine yv' ?_|((apply QL.ev; (· exact rfl); (· apply Ev.sub; (· exact rfl); (· exact rfl); (· omega); (· omega)); (· exact rfl)))|refine uv' ?_|refine un' ?_|(refine us' ?_ ?_;all_goals(intro hc;try simp only[hcs]at hc;try(exfalso;first|contradiction|omega)))|apply QL.nil)
        apply DW.gate 15 [15, 16, 17] [0, 1, 5, 6, 7, 8, 9, 10, 11, 12, 13, 14] (St w F [pN (some ⟨ba, oa, none⟩) D.length c (onP A S x R (j + 1))])
        · decide +kernel
        · exact fun _ _ => trivial
        · decide +kernel
        apply DW.quiet [0, 1, 5, 6, 7, 8, 9, 10, 11, 12, 13, 14]
        · decide +kernel
        · exact fun _ h => h
        repeat'(first|refine yv' ?_|((apply QL.ev; (· exact rfl); (· first | (apply Ev.indexAddr; (· exact rfl); (· exact rfl); (· omega); (· omega)) | (apply Ev.load_agg_at (cs := Plc.cells x); (· exact rfl); (· exact rfl); (· intro w' hw'; refine pcs_cell (hw'.rd_of_own memZ) hat1 ?_; (· omega))) | (apply Ev.load_agg_at (cs := Plc.cells y); (· exact rfl); (· exact rfl); (· intro w' hw'; refine pcs_cell (hw'.rd_of_own memZ) hat0 ?_; (· omega))) | (apply Ev.sub; (· exact rfl); (· exact rfl); (· omega); (· omega))); (· exact rfl)))|refine uv' ?_|refine un' ?_|(refine us' ?_ ?_;all_goals(intro hc;try simp only[hcs]at hc;try(exfalso;first|contradiction|omega)))|apply QL.nil)
        apply DW.done
        · decide +kernel
        apply At.gate
        apply DW.loud 15
        · exact rfl
        · decide +kernel
        refine LR.store_obj rfl rfl (Sel.head _ _ _) rfl (put_plc (l := onP A S x R (j + 1)) y (k := lo + j + 1) (by omega) (by omega)) (osl.dep _ _ _ _ _) ?_
        apply kM
        apply At.stage_any
        apply DW.quiet [16]
        · decide +kernel
        · exact fun _ _ => trivial
        repeat'(first|refine yv' ?_|((apply QL.ev; (· exact rfl); (· apply Ev.indexAddr; (· exact rfl); (· exact rfl); (· omega); (· omega)); (· exact rfl)))|refine uv' ?_|refine un' ?_|(refine us' ?_ ?_;all_goals(intro hc;try simp only[hcs]at hc;try(exfalso;first|contradiction|omega)))|apply QL.nil)
        apply DW.loud 17
        · exact rfl
        · decide +kernel
        refine LR.store_obj rfl rfl (Sel.head _ _ _) rfl (put_plc (l := (onP A S x R (j + 1)).set (lo + j + 1) y) x (k := lo + j) (by rw [List.length_set]; omega) (by omega)) (osl.dep _ _ _ _ _) ?_
        apply kM
        apply At.stage_any
        apply DW.done
        · decide +kernel
        rw [hsw]
        repeat'(first|refine kv' ?_|apply jJ|refine jE' ?_|refine jp' ?_|(apply jc;kernel_rfl)|refine kg' ?_|refine kG' ?_|refine kB' fun _=>?_|refine kA' fun _=>?_|refine kK' fun _=>?_|refine kU' ?_|(apply subX;(iterate 2 exact rfl);(iterate 2(first|omega|(dsimp only;omega)));exact rfl)|((first|refine kR' ?_ ?_|refine kQ' ?_ ?_);all_goals(intro hc;try simp only[hcs]at hc;try(exfalso;first|contradiction|omega))))
        refine At.again j ⟨by omega, by rw [hcut, hcc]⟩ ?_ ⟨?_, trivial⟩ (fun w' hw' => hw') (by omega)
        · (repeat (first | exact Out.refl _ _ | exact Out.mix | (apply Out.upd; (· exact rfl)) | (apply Out.updL; (· exact rfl)) | (apply Out.mixs; (· exact rfl))))
        · exact congrArg (Value.int .i64) (by omega)
      · rw [if_neg hlt2] at hcc
        rw [decide_eq_false hlt2]
        repeat'(first|refine kv' ?_|apply jJ|refine jE' ?_|refine jp' ?_|(apply jc;kernel_rfl)|refine kg' ?_|refine kG' ?_|refine kB' fun _=>?_|refine kA' fun _=>?_|refine kK' fun _=>?_|refine kU' ?_|(apply addX;(iterate 2 exact rfl);(iterate 2(first|omega|(dsimp only;omega)));exact rfl)|((first|refine kR' ?_ ?_|refine kQ' ?_ ?_);all_goals(intro hc;try simp only[hcs]at hc;try(exfalso;first|contradiction|omega))))
        refine At.again (k + 1) ⟨by omega, .inl (by omega)⟩ ?_ ⟨?_, trivial⟩ (fun w' hw' => ?_) (by omega)
        · (repeat (first | exact Out.refl _ _ | exact Out.mix | (apply Out.upd; (· exact rfl)) | (apply Out.updL; (· exact rfl)) | (apply Out.mixs; (· exact rfl))))
        · exact congrArg (Value.int .i64) (by omega)
        · rw [← hne (j + 1) (hcut.trans hcc)]; exact hw'
  · have hkk : sorP D lo k = sorP D lo (hi - lo) := by
      rcases hk2 with h1 | h1
      · rw [show k = hi - lo by omega]
      · subst h1
        rcases Nat.lt_or_ge lo hi with h2 | h2
        · rw [show hi - lo = 1 by omega]
        · have e : hi = lo := by omega
          subst e
          rw [Nat.sub_self]
          rcases Nat.lt_or_ge hi D.length with hl | hl
          · rw [sorP_one D hl]
            unfold sorP
            simp [isP]
          · unfold sorP
            rw [List.drop_of_length_le hl, List.drop_of_length_le (by omega), List.drop_of_length_le (by omega)]
            simp [isP]
    repeat'(first|refine kv' ?_|apply jJ|refine jE' ?_|refine jp' ?_|(apply jc;kernel_rfl)|refine kg' ?_|refine kG' ?_|refine kB' fun _=>?_|refine kA' fun _=>?_|refine kK' fun _=>?_|refine kU' ?_|((first|refine kR' ?_ ?_|refine kQ' ?_ ?_);all_goals(intro hc;try simp only[hcs]at hc;try(exfalso;first|contradiction|omega))))
    apply end0; (· exact rfl); intro w' hS
    rw [hkk] at hS
    subst hF
    exact ⟨rfl, hS.step rfl⟩
end Go.Proofs.Ytgblmkpfkcibiaa

namespace Go.Proofs.Ytgblmkpfkcibiaa
open Go.Hb
attribute [local irreducible] LR CW At Ev thn blk finK noG again CallsTo DW QL dnext TW DP gpost
set_option maxRecDepth 100000

def swK (D : List Plc) (a b : Nat) : Nat → List Plc
  | 0 => D
  | k + 1 => ((swK D a b k).set (a + k) ((swK D a b k).getD (b + k) zP)).set (b + k) ((swK D a b k).getD (a + k) zP)
theorem swK_len (D : List Plc) (a b : Nat) : ∀ k, (swK D a b k).length = D.length
  | 0 => rfl
  | k + 1 => by unfold swK; rw [List.length_set, List.length_set, swK_len D a b k]
set_option maxHeartbeats 2000000 in
theorem m143 (a : Option Addr) (c : Nat) (D : List Plc) (p q n : Nat) (w : World) (h : (pN a D.length c D).holds w) (hp : p + n ≤ D.length) (hq : q + n ≤ D.length) (hn : D.length ≤ 140737488355328) :
    CallsTo Try.prog 143 [.slice a D.length c, .int .i64 p, .int .i64 q, .int .i64 n, .func (.func 85) #[] #[]] w fun v w' => v = .tuple #[] ∧ Step (pN a D.length c D) (pN a D.length c (swK D p q n)) w w' := by
  have hS0 : St w (pN a D.length c D).foot [pN a D.length c D] w := St.one h (fun k hk => (World.ownsRow.lt h k hk).2) (osl.dep _ _ _ _ _)
  generalize hF : (pN a D.length c D).foot = F at *
  refine go_in (n := 38) hS0 Try.func143 rfl rfl ?_
  repeat'(first|refine kv' ?_|apply jJ|refine jE' ?_|refine jp' ?_|(apply jc;kernel_rfl)|refine kg' ?_|refine kG' ?_|refine kB' fun _=>?_|refine kA' fun _=>?_|refine kK' fun _=>?_|refine kU' ?_|((first|refine kR' ?_ ?_|refine kQ' ?_ ?_);all_goals(intro hc;try simp only[hcs]at hc;try(exfalso;first|contradiction|omega))))
  apply CW.loop [10, 11, 12, 13, 14, 15, 16, 17, 18, 19, 20, 21, 22, 23, 24, 25, 26, 27, 28, 29, 30, 31, 32, 33, 34, 35, 36, 37] (fun k : Nat => k ≤ n) (fun k => [(10, .int .i64 (k : Int))]) (fun k => St w F [pN a D.length c (swK D p q k)]) (fun k => n - k)
  · exact fun w' hw' => ⟨0, Nat.zero_le _, ⟨rfl, trivial⟩, hw'⟩
  intro k g1 hk
  by_cases hlt : k < n
  · have hl := swK_len D p q k
    have hnx : swK D p q (k + 1) = ((swK D p q k).set (p + k) ((swK D p q k).getD (q + k) zP)).set (q + k) ((swK D p q k).getD (p + k) zP) := rfl
    refine CW_fact (φ := ∃ ba oa, a = some ⟨ba, oa, none⟩) (fun w1 hw1 => (ownsRow_rd (hw1.holds (pN a D.length c (swK D p q k)) memZ)).form (fun e => by have h1 := congrArg List.length e; rw [pcs_length, hl, List.length_nil] at h1; omega)) ?_
    rintro ⟨ba, oa, rfl⟩
    generalize swK D p q k = E at hl hnx ⊢
    obtain ⟨x, hx⟩ : ∃ x, E.getD (p + k) zP = x := ⟨_, rfl⟩
    obtain ⟨y, hy⟩ : ∃ y, E.getD (q + k) zP = y := ⟨_, rfl⟩
    have hatx : E[p + k]? = some x := by rw [List.getElem?_eq_getElem (by omega), ← hx, List.getD_eq_getElem?_getD, List.getElem?_eq_getElem (by omega)]; rfl
    have haty : E[q + k]? = some y := by rw [List.getElem?_eq_getElem (by omega), ← hy, List.getD_eq_getElem?_getD, List.getElem?_eq_getElem (by omega)]; rfl
    rw [hx, hy] at hnx
    repeat'(first|(apply CW.reg_held (fun _ => True))|refine kv' ?_|apply jJ|refine jE' ?_|refine jp' ?_|(apply jc;kernel_rfl)|refine kg' ?_|refine kG' ?_|refine kB' fun _=>?_|refine kA' fun _=>?_|refine kK' fun _=>?_|refine kU' ?_|((first|refine kR' ?_ ?_|refine kQ' ?_ ?_);all_goals(intro hc;try simp only[hcs]at hc;try(exfalso;first|contradiction|omega))))
    apply DW.quiet [0, 1, 2, 3, 4, 5, 6, 7, 8, 9, 10, 11, 14, 15, 16, 17]
    · decide +kernel
    · exact fun _ _ => trivial
    repeat'(first|refine yv' ?_|((apply QL.ev; (· exact rfl); (· apply Ev.add; (· exact rfl); (· exact rfl); (· omega); (· omega)); (· exact rfl)))|refine uv' ?_|refine un' ?_|(refine us' ?_ ?_;all_goals(intro hc;try simp only[hcs]at hc;try(exfalso;first|contradiction|omega)))|apply QL.nil)
    apply DW.gate 21 [21, 22, 23] [12, 13, 18, 19, 20] (St w F [pN (some ⟨ba, oa, none⟩) D.length c E])
    · decide +kernel
    · exact fun _ _ => trivial
    · decide +kernel
    apply DW.quiet [12, 13, 18, 19, 20]
    · decide +kernel
    · exact fun _ h => h
    repeat'(first|refine yv' ?_|((apply QL.ev; (· exact rfl); (· first | (apply Ev.indexAddr; (· exact rfl); (· exact rfl); (· omega); (· omega)) | (apply Ev.load_agg_at (cs := Plc.cells x); (· exact rfl); (· exact rfl); (· intro w' hw'; refine pcs_cell (hw'.rd_of_own memZ) hatx ?_; (· omega))) | (apply Ev.load_agg_at (cs := Plc.cells y); (· exact rfl); (· exact rfl); (· intro w' hw'; refine pcs_cell (hw'.rd_of_own memZ) haty ?_; (· omega)))); (· exact rfl)))|refine uv' ?_|refine un' ?_|(refine us' ?_ ?_;all_goals(intro hc;try simp only[hcs]at hc;try(exfalso;first|contradiction|omega)))|apply QL.nil)
    apply DW.done
    · decide +kernel
    apply At.gate
    apply DW.loud 21
    · exact rfl
    · decide +kernel
    refine LR.store_obj rfl rfl (Sel.head _ _ _) rfl (put_plc (l := E) y (k := p + k) (by omega) (by omega)) (osl.dep _ _ _ _ _) ?_
    apply kM
    apply At.stage_any
    apply DW.quiet [22]
    · decide +kernel
    · exact fun _ _ => trivial
    repeat'(first|refine yv' ?_|((apply QL.ev; (· exact rfl); (· apply Ev.indexAddr; (· exact rfl); (· exact rfl); (· omega); (· omega)); (· exact rfl)))|refine uv' ?_|refine un' ?_|(refine us' ?_ ?_;all_goals(intro hc;try simp only[hcs]at hc;try(exfalso;first|contradiction|omega)))|apply QL.nil)
    apply DW.loud 23
    · exact rfl
    · decide +kernel
    refine LR.store_obj rfl rfl (Sel.head _ _ _) rfl (put_plc (l := E.set (p + k) y) x (k := q + k) (by rw [List.length_set]; omega) (by omega)) (osl.dep _ _ _ _ _) ?_
    apply kM
    apply At.stage_any
    apply DW.done
    · decide +kernel
    rw [← hnx]
    repeat'(first|refine kv' ?_|apply jJ|refine jE' ?_|refine jp' ?_|(apply jc;kernel_rfl)|refine kg' ?_|refine kG' ?_|refine kB' fun _=>?_|refine kA' fun _=>?_|refine kK' fun _=>?_|refine kU' ?_|(apply addX;(iterate 2 exact rfl);(iterate 2(first|omega|(dsimp only;omega)));exact rfl)|((first|refine kR' ?_ ?_|refine kQ' ?_ ?_);all_goals(intro hc;try simp only[hcs]at hc;try(exfalso;first|contradiction|omega))))
    refine At.again (k + 1) (by omega) ?_ ⟨rfl, trivial⟩ (fun w' hw' => hw') (by omega)
    (repeat (first | exact Out.refl _ _ | exact Out.mix | (apply Out.upd; (· exact rfl)) | (apply Out.updL; (· exact rfl)) | (apply Out.mixs; (· exact rfl))))
  · have hke : k = n := by omega
    subst hke
    repeat'(first|refine kv' ?_|apply jJ|refine jE' ?_|refine jp' ?_|(apply jc;kernel_rfl)|refine kg' ?_|refine kG' ?_|refine kB' fun _=>?_|refine kA' fun _=>?_|refine kK' fun _=>?_|refine kU' ?_|((first|refine kR' ?_ ?_|refine kQ' ?_ ?_);all_goals(intro hc;try simp only[hcs]at hc;try(exfalso;first|contradiction|omega))))
    apply end0; (· exact rfl); intro w' hS
    subst hF
    exact ⟨rfl, hS.step rfl⟩
theorem swK_get (D : List Plc) (p q : Nat) : ∀ n, p + n ≤ q → q + n ≤ D.length → ∀ i, (swK D p q n).getD i zP = if p ≤ i ∧ i < p + n then D.getD (q + (i - p)) zP else if q ≤ i ∧ i < q + n then D.getD (p + (i - q)) zP else D.getD i zP
  | 0, _, _, i => by
    rw [if_neg (by omega), if_neg (by omega)]; rfl
  | n + 1, h1, h2, i => by
    have hl := swK_len D p q n
    have ih := swK_get D p q n (by omega) (by omega)
    have e1 := ih (p + n)
    have e2 := ih (q + n)
    rw [if_neg (by omega), if_neg (by omega)] at e1 e2
    unfold swK
    rw [e1, e2]
    have hset : ∀ (l : List Plc) (k : Nat) (v : Plc) (j : Nat), k < l.length → (l.set k v).getD j zP = if j = k then v else l.getD j zP := by
      intro l k v j hk
      rw [List.getD_eq_getElem?_getD, List.getD_eq_getElem?_getD, List.getElem?_set]
      by_cases h : k = j
      · subst h; rw [if_pos rfl, if_pos rfl, if_pos hk]; rfl
      · rw [if_neg h, if_neg (fun e => h e.symm)]
    rw [hset _ _ _ _ (by rw [List.length_set]; omega), hset _ _ _ _ (by omega), ih i]
    by_cases ha : i = q + n
    · subst ha
      rw [if_pos rfl, if_neg (by omega), if_pos (by omega), show p + (q + n - q) = p + n by omega]
    · rw [if_neg ha]
      by_cases hb : i = p + n
      · subst hb
        rw [if_pos rfl, if_pos (by omega), show q + (p + n - p) = q + n by omega]
      · rw [if_neg hb]
        by_cases hc : p ≤ i ∧ i < p + n
        · rw [if_pos hc, if_pos (by omega)]
        · by_cases hd : q ≤ i ∧ i < q + n
          · rw [if_neg hc, if_pos hd, if_neg (by omega), if_pos (by omega)]
          · rw [if_neg hc, if_neg hd, if_neg (by omega), if_neg (by omega)]
end Go.Proofs.Ytgblmkpfkcibiaa

namespace Go.Proofs.Ytgblmkpfkcibiaa
open Go.Hb
attribute [local irreducible] LR CW At Ev thn blk finK noG again CallsTo DW QL dnext TW DP gpost
set_option maxRecDepth 100000

def swI (p q n i : Nat) : Nat := if p ≤ i ∧ i < p + n then q + (i - p) else if q ≤ i ∧ i < q + n then p + (i - q) else i
def rotI (a m b i : Nat) : Nat := if a ≤ i ∧ i < a + (b - m) then m + (i - a) else if a + (b - m) ≤ i ∧ i < b then i - (b - m) else i
theorem swK_getI {D : List Plc} {p q n : Nat} (h1 : p + n ≤ q) (h2 : q + n ≤ D.length) (i : Nat) : (swK D p q n).getD i zP = D.getD (swI p q n i) zP := by
  rw [swK_get D p q n h1 h2]
  unfold swI
  split
  · rfl
  · split <;> rfl
def perI (D : List Plc) (f : Nat → Nat) : List Plc := (List.range D.length).map fun i => D.getD (f i) zP
theorem perI_len (D : List Plc) (f : Nat → Nat) : (perI D f).length = D.length := by simp [perI]
theorem ext_getD {X Y : List Plc} (hl : X.length = Y.length) (h : ∀ i, i < X.length → X.getD i zP = Y.getD i zP) : X = Y := by
  refine List.ext_getElem hl fun i h1 h2 => ?_
  have := h i h1
  rw [List.getD_eq_getElem?_getD, List.getD_eq_getElem?_getD, List.getElem?_eq_getElem h1, List.getElem?_eq_getElem h2] at this
  exact this
theorem perI_getD (D : List Plc) (f : Nat → Nat) {i : Nat} (h : i < D.length) : (perI D f).getD i zP = D.getD (f i) zP := by
  unfold perI
  rw [List.getD_eq_getElem?_getD, List.getElem?_map, List.getElem?_range h]
  rfl
theorem rot_gt {m i j : Nat} (h1 : i ≤ m) (hj : 1 ≤ j) (h : j < i) (x : Nat) : swI (m - i) m j (rotI (m - (i - j)) m (m + j) x) = rotI (m - i) m (m + j) x := by
  unfold swI rotI
  repeat' split
  all_goals omega
theorem rot_lt {m i j : Nat} (h1 : i ≤ m) (hi : 1 ≤ i) (h : i < j) (x : Nat) : swI (m - i) (m + j - i) i (rotI (m - i) m (m + (j - i)) x) = rotI (m - i) m (m + j) x := by
  unfold swI rotI
  repeat' split
  all_goals omega
theorem rot_eq {m i : Nat} (h1 : i ≤ m) (x : Nat) : swI (m - i) m i x = rotI (m - i) m (m + i) x := by
  unfold swI rotI
  repeat' split
  all_goals omega
structure RoS where
  i : Nat
  j : Nat
  E : List Plc
structure RoI (D : List Plc) (a m b : Nat) (s : RoS) : Prop where
  i1 : 1 ≤ s.i
  j1 : 1 ≤ s.j
  ia : s.i ≤ m - a
  jb : s.j ≤ b - m
  len : s.E.length = D.length
  eq : ∀ x, s.E.getD (rotI (m - s.i) m (m + s.j) x) zP = D.getD (rotI a m b x) zP
set_option maxHeartbeats 4000000 in
theorem m140 (ad : Option Addr) (c : Nat) (D : List Plc) (a m b : Nat) (w : World) (h : (pN ad D.length c D).holds w) (ham : a < m) (hmb : m < b) (hb : b ≤ D.length) (hn : D.length ≤ 140737488355328) :
    CallsTo Try.prog 140 [.slice ad D.length c, .int .i64 a, .int .i64 m, .int .i64 b, .func (.func 85) #[] #[]] w fun v w' => v = .tuple #[] ∧ Step (pN ad D.length c D) (pN ad D.length c (perI D (rotI a m b))) w w' := by
  have hS0 : St w (pN ad D.length c D).foot [pN ad D.length c D] w := St.one h (fun k hk => (World.ownsRow.lt h k hk).2) (osl.dep _ _ _ _ _)
  generalize hF : (pN ad D.length c D).foot = F at *
  refine go_in (n := 58) hS0 Try.func140 rfl rfl ?_
  repeat'(first|refine kv' ?_|apply jJ|refine jE' ?_|refine jp' ?_|(apply jc;kernel_rfl)|refine kg' ?_|refine kG' ?_|refine kB' fun _=>?_|refine kA' fun _=>?_|refine kK' fun _=>?_|refine kU' ?_|(apply subX;(iterate 2 exact rfl);(iterate 2(first|omega|(dsimp only;omega)));exact rfl)|((first|refine kR' ?_ ?_|refine kQ' ?_ ?_);all_goals(intro hc;try simp only[hcs]at hc;try(exfalso;first|contradiction|omega))))
  apply CW.loop [10, 11, 18, 19, 20, 21, 22, 23, 24, 25, 26, 27, 28, 29, 30, 31, 32, 33, 34, 35, 36, 37, 38, 39, 40, 41, 42, 43, 44, 45, 46, 47, 48, 49] (RoI D a m b) (fun s => [(10, .int .i64 (s.i : Int)), (11, .int .i64 (s.j : Int))]) (fun s => St w F [pN ad D.length c s.E]) (fun s => s.i + s.j)
  · refine fun w' hw' => ⟨⟨m - a, b - m, D⟩, ⟨by simp only; omega, by simp only; omega, Nat.le_refl _, Nat.le_refl _, rfl, fun x => ?_⟩, ⟨congrArg (Value.int .i64) (by simp only; omega), congrArg (Value.int .i64) (by simp only; omega), trivial⟩, hw'⟩
    simp only
    rw [show m - (m - a) = a by omega, show m + (b - m) = b by omega]
  rintro ⟨i, j, E⟩ g ⟨hi1, hj1, hia, hjb, hl, heq⟩
  simp only at hi1 hj1 hia hjb hl heq ⊢
  have hcall : ∀ (P Q N : Int) (p q n : Nat), P = p → Q = q → N = n → ∀ (w1 : World), (pN ad D.length c E).holds w1 → p + n ≤ D.length → q + n ≤ D.length → CallsTo Try.prog 143 [.slice ad D.length c, .int .i64 P, .int .i64 Q, .int .i64 N, .func (.func 85) #[] #[]] w1 fun v w' => v = .tuple #[] ∧ Step (pN ad D.length c E) (pN ad D.length c (swK E p q n)) w1 w' := by
    rintro _ _ _ p q n rfl rfl rfl w1 h1 h2 h3
    have := m143 ad c E p q n w1 (by rw [hl]; exact h1) (by omega) (by omega) (by omega)
    rwa [hl] at this
  have hsub1 : ((m : Int) - (i : Int)) = ((m - i : Nat) : Int) := by omega
  by_cases hij : j < i
  · repeat'(first|refine kv' ?_|apply jJ|refine jE' ?_|refine jp' ?_|(apply jc;kernel_rfl)|refine kg' ?_|refine kG' ?_|refine kB' fun _=>?_|refine kA' fun _=>?_|refine kK' fun _=>?_|refine kU' ?_|(apply subX;(iterate 2 exact rfl);(iterate 2(first|omega|(dsimp only;omega)));exact rfl)|((first|refine kR' ?_ ?_|refine kQ' ?_ ?_);all_goals(intro hc;try simp only[hcs]at hc;try(exfalso;first|contradiction|omega))))
    apply LR.call
    · exact rfl
    intro w1 h1
    refine CallsTo.mono (hcall ((m : Int) - (i : Int)) (m : Int) (j : Int) (m - i) m j (by omega) rfl rfl w1 (h1.holds _ (mH _ _)) (by omega) (by omega)) ?_
    rintro v w2 ⟨rfl, st⟩
    refine LR.back (h1.did (Sel.head _ _ _) rfl st (osl.dep _ _ _ _ _)) ?_
    clear st h1
    repeat'(first|refine kv' ?_|apply jJ|refine jE' ?_|refine jp' ?_|(apply jc;kernel_rfl)|refine kg' ?_|refine kG' ?_|refine kB' fun _=>?_|refine kA' fun _=>?_|refine kK' fun _=>?_|refine kU' ?_|(apply subX;(iterate 2 exact rfl);(iterate 2(first|omega|(dsimp only;omega)));exact rfl)|((first|refine kR' ?_ ?_|refine kQ' ?_ ?_);all_goals(intro hc;try simp only[hcs]at hc;try(exfalso;first|contradiction|omega))))
    refine At.again (⟨i - j, j, swK E (m - i) m j⟩ : RoS) ⟨by simp only; omega, hj1, by simp only; omega, hjb, by simp only; rw [swK_len, hl], fun x => ?_⟩ ?_ ⟨?_, rfl, trivial⟩ (fun w' hw' => hw') (by simp only; omega)
    · simp only
      rw [swK_getI (by omega) (by omega), rot_gt (by omega) hj1 hij, heq]
    · (repeat (first | exact Out.refl _ _ | exact Out.mix | (apply Out.upd; (· exact rfl)) | (apply Out.updL; (· exact rfl)) | (apply Out.mixs; (· exact rfl))))
    · exact congrArg (Value.int .i64) (by simp only; omega)
  · by_cases hji : i < j
    · repeat'(first|refine kv' ?_|apply jJ|refine jE' ?_|refine jp' ?_|(apply jc;kernel_rfl)|refine kg' ?_|refine kG' ?_|refine kB' fun _=>?_|refine kA' fun _=>?_|refine kK' fun _=>?_|refine kU' ?_|(apply subX;(iterate 2 exact rfl);(iterate 2(first|omega|(dsimp only;omega)));exact rfl)|(apply addX;(iterate 2 exact rfl);(iterate 2(first|omega|(dsimp only;omega)));exact rfl)|((first|refine kR' ?_ ?_|refine kQ' ?_ ?_);all_goals(intro hc;try simp only[hcs]at hc;try(exfalso;first|contradiction|omega))))
      apply LR.call
      · exact rfl
      intro w1 h1
      refine CallsTo.mono (hcall ((m : Int) - (i : Int)) ((m : Int) + (j : Int) - (i : Int)) (i : Int) (m - i) (m + j - i) i (by omega) (by omega) rfl w1 (h1.holds _ (mH _ _)) (by omega) (by omega)) ?_
      rintro v w2 ⟨rfl, st⟩
      refine LR.back (h1.did (Sel.head _ _ _) rfl st (osl.dep _ _ _ _ _)) ?_
      clear st h1
      repeat'(first|refine kv' ?_|apply jJ|refine jE' ?_|refine jp' ?_|(apply jc;kernel_rfl)|refine kg' ?_|refine kG' ?_|refine kB' fun _=>?_|refine kA' fun _=>?_|refine kK' fun _=>?_|refine kU' ?_|(apply subX;(iterate 2 exact rfl);(iterate 2(first|omega|(dsimp only;omega)));exact rfl)|((first|refine kR' ?_ ?_|refine kQ' ?_ ?_);all_goals(intro hc;try simp only[hcs]at hc;try(exfalso;first|contradiction|omega))))
      refine At.again (⟨i, j - i, swK E (m - i) (m + j - i) i⟩ : RoS) ⟨hi1, by simp only; omega, hia, by simp only; omega, by simp only; rw [swK_len, hl], fun x => ?_⟩ ?_ ⟨rfl, ?_, trivial⟩ (fun w' hw' => hw') (by simp only; omega)
      · simp only
        rw [swK_getI (by omega) (by omega), rot_lt (by omega) hi1 hji, heq]
      · (repeat (first | exact Out.refl _ _ | exact Out.mix | (apply Out.upd; (· exact rfl)) | (apply Out.updL; (· exact rfl)) | (apply Out.mixs; (· exact rfl))))
      · exact congrArg (Value.int .i64) (by simp only; omega)
    · have hie : i = j := by omega
      subst hie
      repeat'(first|refine kv' ?_|apply jJ|refine jE' ?_|refine jp' ?_|(apply jc;kernel_rfl)|refine kg' ?_|refine kG' ?_|refine kB' fun _=>?_|refine kA' fun _=>?_|refine kK' fun _=>?_|refine kU' ?_|(apply subX;(iterate 2 exact rfl);(iterate 2(first|omega|(dsimp only;omega)));exact rfl)|((first|refine kR' ?_ ?_|refine kQ' ?_ ?_);all_goals(intro hc;try simp only[hcs]at hc;try(exfalso;first|contradiction|omega))))
      apply LR.call
      · exact rfl
      intro w1 h1
      refine CallsTo.mono (hcall ((m : Int) - (i : Int)) (m : Int) (i : Int) (m - i) m i (by omega) rfl rfl w1 (h1.holds _ (mH _ _)) (by omega) (by omega)) ?_
      rintro v w2 ⟨rfl, st⟩
      refine LR.back (h1.did (Sel.head _ _ _) rfl st (osl.dep _ _ _ _ _)) ?_
      clear st h1
      have hD : swK E (m - i) m i = perI D (rotI a m b) := by
        refine ext_getD (by rw [swK_len, perI_len, hl]) fun x hx => ?_
        rw [swK_len, hl] at hx
        rw [perI_getD _ _ hx, swK_getI (by omega) (by omega), rot_eq (by omega), heq]
      rw [hD]
      repeat'(first|refine kv' ?_|apply jJ|refine jE' ?_|refine jp' ?_|(apply jc;kernel_rfl)|refine kg' ?_|refine kG' ?_|refine kB' fun _=>?_|refine kA' fun _=>?_|refine kK' fun _=>?_|refine kU' ?_|((first|refine kR' ?_ ?_|refine kQ' ?_ ?_);all_goals(intro hc;try simp only[hcs]at hc;try(exfalso;first|contradiction|omega))))
      apply end0; (· exact rfl); intro w' hS
      subst hF
      exact ⟨rfl, hS.step rfl⟩
end Go.Proofs.Ytgblmkpfkcibiaa

namespace Go.Hb

theorem orI_eq (a b : Int) : orI .i64 a b = (B64 a ||| B64 b).toInt := wrap_toInt _
theorem B64_toInt (x : BitVec 64) : B64 x.toInt = x := BitVec.ofInt_toInt
theorem tb_or (a b : Int) (i : Nat) : tb (orI .i64 a b) i = (tb a i || tb b i) := by
  unfold tb; rw [orI_eq, B64_toInt, BitVec.getLsbD_or]
theorem tb_andNot (a b : Int) {i : Nat} (h : i < 64) : tb (andNotI .i64 a b) i = (tb a i && !tb b i) := by
  unfold tb; rw [andNotI_eq, B64_toInt, BitVec.getLsbD_and, BitVec.getLsbD_not]; simp [h]
theorem tb_pow {k : Nat} (h : k ≤ 8) (i : Nat) : tb (2 ^ k) i = decide (k = i) := by
  have e : B64 (2 ^ k) = BitVec.twoPow 64 k := by
    rcases low9 h with rfl | rfl | rfl | rfl | rfl | rfl | rfl | rfl | rfl <;> rfl
  unfold tb
  rw [e, BitVec.getLsbD_twoPow]
  by_cases hk : k = i
  · subst hk; simp; omega
  · simp [hk]
structure Gat where
  n : Int
  a : Int
  b : Int
def membersC (c : Int) : Bool := decide (c ≠ 0) && crewOk c
def twS (s : Int × Int) (c : Int) : Int × Int := (orI .i64 s.1 (andI .i64 s.2 c), orI .i64 s.2 c)
def twF (R : List Int) : Int × Int := R.foldl twS (0, 0)
def gwOk (R : List Int) (tw : Int) (ps : List Int) (g : Gat) : Bool :=
  decide (0 ≤ g.a ∧ g.a < g.b ∧ g.b < R.length) && (hasC tw g.n && ((List.range R.length).all fun i => hasC (R.getD i 0) g.n == decide ((i : Int) = g.a ∨ (i : Int) = g.b)) && !tb (ps.getD g.a.toNat 0) g.b.toNat)
def bothG (ps : List Int) (g : Gat) : Int := orI .i64 (ps.getD g.a.toNat 0) (ps.getD g.b.toNat 0)
def psG (ps : List Int) (g : Gat) : List Int := (List.range ps.length).map fun i => if tb (bothG ps g) i then bothG ps g else ps.getD i 0
def twG (tw : Int) (g : Gat) : Int := andNotI .i64 tw (2 ^ g.n.toNat)
def gwAll (R : List Int) : List Gat → Int → List Int → Bool
  | [], tw, _ => decide (tw = 0)
  | g :: r, tw, ps => gwOk R tw ps g && gwAll R r (twG tw g) (psG ps g)
def ps0 (n : Nat) : List Int := (List.range n).map fun i => (2 : Int) ^ i
def chkP (R : List Int) (G : List Gat) : Bool := decide (1 ≤ R.length ∧ R.length ≤ 4) && (R.all membersC && gwAll R G (twF R).1 (ps0 R.length))
def ringG (R : List Int) (i : Int) : Bool := decide (0 ≤ i ∧ i < R.length)
def nsG (ns : List Int) (g : Gat) : List Int := ns.map fun x => if x = max (ns.getD g.a.toNat 0) (ns.getD g.b.toNat 0) then min (ns.getD g.a.toNat 0) (ns.getD g.b.toNat 0) else x
structure Fine (R : List Int) (g : Gat) : Prop where
  a0 : 0 ≤ g.a
  ab : g.a < g.b
  bl : g.b < R.length
  n1 : 1 ≤ g.n
  n8 : g.n ≤ 8
  on : ∀ i, i < R.length → (hasC (R.getD i 0) g.n = true ↔ ((i : Int) = g.a ∨ (i : Int) = g.b))
structure SameN (n : Nat) (ps ns : List Int) : Prop where
  lp : ps.length = n
  ln : ns.length = n
  eq : ∀ i j, i < n → j < n → tb (ps.getD i 0) j = decide (ns.getD i 0 = ns.getD j 0)
theorem getD_map_range {f : Nat → Int} {n i : Nat} (h : i < n) : ((List.range n).map f).getD i 0 = f i := by
  rw [List.getD_eq_getElem?_getD, List.getElem?_map, List.getElem?_range h]; rfl
theorem getD_map {f : Int → Int} {l : List Int} {i : Nat} (h : i < l.length) : (l.map f).getD i 0 = f (l.getD i 0) := by
  rw [List.getD_eq_getElem?_getD, List.getD_eq_getElem?_getD, List.getElem?_map, List.getElem?_eq_getElem h]; rfl
theorem SameN.step {n : Nat} {ps ns : List Int} {g : Gat} (h : SameN n ps ns) (ha : g.a.toNat < n) (hb : g.b.toNat < n) : SameN n (psG ps g) (nsG ns g) := by
  have hbo : ∀ k, k < n → tb (bothG ps g) k = decide (ns.getD g.a.toNat 0 = ns.getD k 0 ∨ ns.getD g.b.toNat 0 = ns.getD k 0) := fun k hk => by
    unfold bothG
    rw [tb_or, h.eq _ _ ha hk, h.eq _ _ hb hk, Bool.decide_or]
  refine ⟨by simp [psG, h.lp], by simp [nsG, h.ln], fun i j hi hj => ?_⟩
  unfold nsG
  rw [getD_map (by rw [h.ln]; exact hi), getD_map (by rw [h.ln]; exact hj)]
  unfold psG
  rw [getD_map_range (by rw [h.lp]; exact hi), hbo i hi]
  have hij := h.eq i j hi hj
  have hbj := hbo j hj
  generalize ns.getD i 0 = x at *
  generalize ns.getD j 0 = y at *
  generalize ns.getD g.a.toNat 0 = p at *
  generalize ns.getD g.b.toNat 0 = q at *
  by_cases hc : p = x ∨ q = x
  · rw [if_pos (by simpa using hc), hbj, decide_eq_decide]
    split <;> split <;> omega
  · rw [if_neg (by simpa using hc), hij, decide_eq_decide]
    split <;> split <;> omega
end Go.Hb

namespace Go.Hb

structure PlOk (R : List Int) (G : List Gat) : Prop where
  l1 : 1 ≤ R.length
  l4 : R.length ≤ 4
  mem : R.all membersC = true
  fine : ∀ g ∈ G, Fine R g
  nd : (G.map Gat.n).Nodup
theorem twG_has {tw : Int} {g : Gat} (h1 : 1 ≤ g.n) (h8 : g.n ≤ 8) {n : Int} (h : hasC (twG tw g) n = true) : hasC tw n = true ∧ n ≠ g.n := by
  unfold hasC at *
  rw [Bool.and_eq_true, decide_eq_true_eq] at h
  obtain ⟨hr, hb⟩ := h
  unfold twG at hb
  rw [tb_andNot _ _ (by omega), tb_pow (by omega), Bool.and_eq_true] at hb
  rw [decide_eq_true hr, Bool.true_and]
  refine ⟨hb.1, fun e => ?_⟩
  have h2 := hb.2
  rw [e] at h2
  simp at h2
theorem gwAll_ok {R : List Int} : ∀ {Q : List Gat} {tw : Int} {ps : List Int}, gwAll R Q tw ps = true → (∀ g ∈ Q, Fine R g ∧ hasC tw g.n = true) ∧ (Q.map Gat.n).Nodup
  | [], tw, ps, _ => ⟨fun g hg => (by cases hg), List.nodup_nil⟩
  | g :: r, tw, ps, h => by
    unfold gwAll at h
    rw [Bool.and_eq_true] at h
    obtain ⟨hg, hr⟩ := h
    unfold gwOk at hg
    simp only [Bool.and_eq_true, decide_eq_true_eq, List.all_eq_true, List.mem_range, beq_iff_eq, Bool.not_eq_true'] at hg
    obtain ⟨⟨h1, h2, h3⟩, ⟨h4, h5⟩, h6⟩ := hg
    have hn : 1 ≤ g.n ∧ g.n ≤ 8 := by
      have h7 := h4
      unfold hasC at h7
      rw [Bool.and_eq_true, decide_eq_true_eq] at h7
      omega
    have hfg : Fine R g := ⟨h1, h2, h3, hn.1, hn.2, fun i hi => by rw [h5 i hi, decide_eq_true_eq]⟩
    have ih := gwAll_ok hr
    refine ⟨fun x hx => ?_, ?_⟩
    · rcases List.mem_cons.1 hx with rfl | hx
      · exact ⟨hfg, h4⟩
      · exact ⟨(ih.1 x hx).1, (twG_has hn.1 hn.2 (ih.1 x hx).2).1⟩
    · rw [List.map_cons, List.nodup_cons]
      refine ⟨fun hm => ?_, ih.2⟩
      obtain ⟨x, hx, he⟩ := List.mem_map.1 hm
      exact (twG_has hn.1 hn.2 (ih.1 x hx).2).2 he
theorem pl_ok {R : List Int} {G : List Gat} (h : chkP R G = true) : PlOk R G := by
  unfold chkP at h
  simp only [Bool.and_eq_true, decide_eq_true_eq] at h
  have h2 := gwAll_ok h.2.2
  exact ⟨h.1.1, h.1.2, h.2.1, fun g hg => (h2.1 g hg).1, h2.2⟩
def farG : List Gat → Int → Int → Option Int
  | [], _, _ => none
  | g :: t, n, r => if g.n = n ∧ g.a = r then some g.b else if g.n = n ∧ g.b = r then some g.a else farG t n r
def farT (R : List Int) (G : List Gat) (n r : Int) : Option Int := if chkP R G then farG G n r else none
theorem farG_drop (G : List Gat) (n r : Int) {i : Nat} (h : i < G.length) : farG (G.drop i) n r = if (G[i]'h).n = n ∧ (G[i]'h).a = r then some (G[i]'h).b else if (G[i]'h).n = n ∧ (G[i]'h).b = r then some (G[i]'h).a else farG (G.drop (i + 1)) n r := by
  rw [List.drop_eq_getElem_cons h, farG]
theorem farG_some {n r : Int} : ∀ {G : List Gat}, (farG G n r).isSome = true ↔ ∃ g ∈ G, g.n = n ∧ (g.a = r ∨ g.b = r)
  | [] => by simp [farG]
  | g :: t => by
    have ih := farG_some (n := n) (r := r) (G := t)
    unfold farG
    by_cases h1 : g.n = n ∧ g.a = r
    · rw [if_pos h1]
      simp only [Option.isSome_some, true_iff]
      exact ⟨g, List.mem_cons_self, h1.1, .inl h1.2⟩
    · rw [if_neg h1]
      by_cases h2 : g.n = n ∧ g.b = r
      · rw [if_pos h2]
        simp only [Option.isSome_some, true_iff]
        exact ⟨g, List.mem_cons_self, h2.1, .inr h2.2⟩
      · rw [if_neg h2, ih]
        constructor
        · rintro ⟨x, hx, h⟩; exact ⟨x, List.mem_cons_of_mem _ hx, h⟩
        · rintro ⟨x, hx, hn, h⟩
          rcases List.mem_cons.1 hx with rfl | hx
          · rcases h with h | h
            · exact (h1 ⟨hn, h⟩).elim
            · exact (h2 ⟨hn, h⟩).elim
          · exact ⟨x, hx, hn, h⟩
def gwRaw (G : List Gat) (r : Int) : List Int := (G.filter fun g => decide (g.a = r) || decide (g.b = r)).map Gat.n
def gwsTo (R : List Int) (G : List Gat) (r : Int) : Nat → List Int
  | 0 => []
  | k + 1 => gwsTo R G r k ++ if (farT R G ((k + 1 : Nat) : Int) r).isSome then [((k + 1 : Nat) : Int)] else []
def gwsT (R : List Int) (G : List Gat) (r : Int) : List Int := gwsTo R G r 8
theorem gwsTo_len (R : List Int) (G : List Gat) (r : Int) : ∀ k, (gwsTo R G r k).length ≤ k
  | 0 => by simp [gwsTo]
  | k + 1 => by
    have := gwsTo_len R G r k
    unfold gwsTo
    rw [List.length_append]
    split <;> simp <;> omega
theorem gwsTo_mem {R : List Int} {G : List Gat} {r x : Int} : ∀ {k : Nat}, x ∈ gwsTo R G r k ↔ (1 ≤ x ∧ x ≤ k) ∧ (farT R G x r).isSome = true
  | 0 => by simp [gwsTo]; omega
  | k + 1 => by
    unfold gwsTo
    rw [List.mem_append, gwsTo_mem]
    by_cases hx : x = ((k + 1 : Nat) : Int)
    · rw [hx]
      split
      · rename_i h; exact ⟨fun _ => ⟨by omega, h⟩, fun _ => .inr (List.mem_singleton.2 rfl)⟩
      · rename_i h
        refine ⟨fun h2 => ?_, fun h2 => absurd h2.2 h⟩
        rcases h2 with h2 | h2
        · exact absurd h2.2 h
        · cases h2
    · constructor
      · rintro (⟨h1, h2⟩ | h1)
        · exact ⟨by omega, h2⟩
        · split at h1
          · exact absurd (List.mem_singleton.1 h1) hx
          · cases h1
      · rintro ⟨h1, h2⟩
        exact .inl ⟨by omega, h2⟩
theorem gwsTo_asc (R : List Int) (G : List Gat) (r : Int) : ∀ k, (gwsTo R G r k).Pairwise (· < ·)
  | 0 => List.Pairwise.nil
  | k + 1 => by
    unfold gwsTo
    rw [List.pairwise_append]
    refine ⟨gwsTo_asc R G r k, by split <;> simp, fun a ha b hb => ?_⟩
    have h1 := (gwsTo_mem.1 ha).1
    split at hb
    · rw [List.mem_singleton] at hb; omega
    · cases hb
theorem asc_extM : ∀ {l m : List Int}, l.Pairwise (· < ·) → m.Pairwise (· < ·) → (∀ x, x ∈ l ↔ x ∈ m) → l = m
  | [], [], _, _, _ => rfl
  | [], y :: m, _, _, h => absurd ((h y).2 List.mem_cons_self) (by simp)
  | x :: l, [], _, _, h => absurd ((h x).1 List.mem_cons_self) (by simp)
  | x :: l, y :: m, hl, hm, h => by
    rw [List.pairwise_cons] at hl hm
    have e : x = y := by
      rcases List.mem_cons.1 ((h x).1 List.mem_cons_self) with e | hx
      · exact e
      · rcases List.mem_cons.1 ((h y).2 List.mem_cons_self) with e | hy
        · exact e.symm
        · have := hm.1 x hx; have := hl.1 y hy; omega
    subst e
    rw [asc_extM hl.2 hm.2 fun z => ?_]
    constructor
    · intro hz
      rcases List.mem_cons.1 ((h z).1 (List.mem_cons_of_mem _ hz)) with e | h2
      · have := hl.1 z hz; omega
      · exact h2
    · intro hz
      rcases List.mem_cons.1 ((h z).2 (List.mem_cons_of_mem _ hz)) with e | h2
      · have := hm.1 z hz; omega
      · exact h2
theorem gws_sort {R : List Int} {G : List Gat} (r : Int) (h : chkP R G = true) : (gwRaw G r).mergeSort (fun x y => decide (x ≤ y)) = gwsT R G r := by
  have hok := pl_ok h
  have hnd : (gwRaw G r).Nodup := by
    unfold gwRaw
    exact hok.nd.sublist ((List.filter_sublist).map Gat.n)
  have hp := List.mergeSort_perm (gwRaw G r) (fun x y => decide (x ≤ y))
  have hs : ((gwRaw G r).mergeSort (fun x y => decide (x ≤ y))).Pairwise (fun a b => decide (a ≤ b) = true) :=
    List.pairwise_mergeSort (fun a b c h1 h2 => by simp only [decide_eq_true_eq] at *; omega) (fun a b => by simp only [Bool.or_eq_true, decide_eq_true_eq]; omega) _
  have hnd2 : ((gwRaw G r).mergeSort (fun x y => decide (x ≤ y))).Nodup := hp.nodup_iff.2 hnd
  refine asc_extM ?_ (gwsTo_asc R G r 8) fun x => ?_
  · have h3 := List.Pairwise.and hs hnd2
    exact h3.imp fun {a b} h => by
      have h1 := h.1
      have h2 := h.2
      simp only [decide_eq_true_eq] at h1
      omega
  · rw [hp.mem_iff]
    unfold gwsT
    rw [gwsTo_mem]
    unfold farT
    rw [if_pos h, farG_some]
    unfold gwRaw
    rw [List.mem_map]
    constructor
    · rintro ⟨g, hg, rfl⟩
      obtain ⟨h1, h2⟩ := List.mem_filter.1 hg
      have hf := hok.fine g h1
      refine ⟨⟨hf.n1, by have := hf.n8; omega⟩, g, h1, rfl, by simpa using h2⟩
    · rintro ⟨_, g, hg, rfl, h2⟩
      exact ⟨g, List.mem_filter.2 ⟨hg, by simpa using h2⟩, rfl⟩
theorem gwsTo_bad {R : List Int} {G : List Gat} (r : Int) (h : chkP R G = false) : gwsT R G r = [] := by
  refine List.eq_nil_iff_forall_not_mem.2 fun x hx => ?_
  unfold gwsT at hx
  rw [gwsTo_mem] at hx
  unfold farT at hx
  rw [h] at hx
  simp at hx
def sidesTo (R : List Int) (n : Int) : Nat → List Int
  | 0 => []
  | k + 1 => sidesTo R n k ++ if hasC (R.getD k 0) n then [(k : Int)] else []
def sidesT (R : List Int) (G : List Gat) (n : Int) : List Int := if chkP R G then sidesTo R n R.length else []
theorem sidesTo_len (R : List Int) (n : Int) : ∀ k, (sidesTo R n k).length ≤ k
  | 0 => by simp [sidesTo]
  | k + 1 => by
    have := sidesTo_len R n k
    unfold sidesTo
    rw [List.length_append]
    split <;> simp <;> omega
end Go.Hb

namespace Go.Proofs.Ytgblmkpfkcibiaa
open Go.Hb

theorem putP_perm (l : List Plc) (x : Plc) : (putP l x).Perm (x :: l) := by
  unfold putP
  have h : (l.take (cutP l x l.length) ++ x :: l.drop (cutP l x l.length)).Perm (x :: (l.take (cutP l x l.length) ++ l.drop (cutP l x l.length))) := List.perm_middle
  rwa [List.take_append_drop] at h
theorem isP_perm (l : List Plc) : (isP l).Perm l := by
  have : ∀ (l m : List Plc), (l.foldl putP m).Perm (m ++ l) := by
    intro l
    induction l with
    | nil => intro m; rw [List.append_nil]; exact List.Perm.refl _
    | cons x r ih =>
      intro m
      rw [List.foldl_cons]
      refine (ih _).trans ?_
      refine ((putP_perm m x).append_right r).trans ?_
      exact (List.perm_middle (a := x) (l₁ := m) (l₂ := r)).symm
  simpa [isP] using this l []
theorem cutP_spec (l : List Plc) (x : Plc) : ∀ k, k ≤ l.length → (∀ i, cutP l x k ≤ i → i < k → x.ring < (l.getD i zP).ring) ∧ (0 < cutP l x k → (l.getD (cutP l x k - 1) zP).ring ≤ x.ring)
  | 0, _ => ⟨fun i h1 h2 => by omega, fun h => by simp [cutP] at h⟩
  | k + 1, hk => by
    have ih := cutP_spec l x k (by omega)
    by_cases h : x.ring < (l.getD k zP).ring
    · have e : cutP l x (k + 1) = cutP l x k := by rw [cutP, if_pos h]
      rw [e]
      refine ⟨fun i h1 h2 => ?_, ih.2⟩
      by_cases hi : i = k
      · subst hi; exact h
      · exact ih.1 i h1 (by omega)
    · have e : cutP l x (k + 1) = k + 1 := by rw [cutP, if_neg h]
      rw [e]
      exact ⟨fun i h1 h2 => by omega, fun _ => by rw [Nat.add_sub_cancel]; omega⟩
def SorP (l : List Plc) : Prop := l.Pairwise fun a b => a.ring ≤ b.ring
theorem getD_plc (l : List Plc) {i : Nat} (h : i < l.length) : l.getD i zP = l[i] := by rw [List.getD_eq_getElem?_getD, List.getElem?_eq_getElem h]; rfl
theorem putP_sor {l : List Plc} (x : Plc) (h : SorP l) : SorP (putP l x) := by
  have hsp := cutP_spec l x l.length (Nat.le_refl _)
  have hle := cutP_le l x l.length
  unfold SorP putP at *
  generalize cutP l x l.length = c at *
  have hs := List.pairwise_iff_getElem.1 h
  rw [List.pairwise_append, List.pairwise_cons]
  refine ⟨h.sublist (List.take_sublist _ _), ⟨fun y hy => ?_, h.sublist (List.drop_sublist _ _)⟩, fun a ha b hb => ?_⟩
  · obtain ⟨i, hi, rfl⟩ := List.getElem_of_mem hy
    rw [List.length_drop] at hi
    rw [List.getElem_drop]
    have := hsp.1 (c + i) (by omega) (by omega)
    rw [getD_plc l (by omega)] at this
    omega
  · obtain ⟨i, hi, rfl⟩ := List.getElem_of_mem ha
    rw [List.length_take] at hi
    rw [List.getElem_take]
    rcases List.mem_cons.1 hb with rfl | hb
    · have h1 := hsp.2 (by omega)
      rw [getD_plc l (by omega)] at h1
      by_cases hic : i = c - 1
      · subst hic; exact h1
      · have := hs i (c - 1) (by omega) (by omega) (by omega)
        omega
    · obtain ⟨j, hj, rfl⟩ := List.getElem_of_mem hb
      rw [List.length_drop] at hj
      rw [List.getElem_drop]
      exact hs i (c + j) (by omega) (by omega) (by omega)
theorem isP_sor (l : List Plc) : SorP (isP l) := by
  have : ∀ (l m : List Plc), SorP m → SorP (l.foldl putP m) := by
    intro l
    induction l with
    | nil => intro m h; exact h
    | cons x r ih => intro m h; exact ih _ (putP_sor x h)
  exact this l [] List.Pairwise.nil
def plcK (K : List Plc) (r : Int) : Option Plc := K.find? fun x => decide (x.ring = r)
theorem plcK_ring {K : List Plc} {r : Int} {x : Plc} (h : plcK K r = some x) : x.ring = r := by
  unfold plcK at h; simpa using List.find?_some h
def leftS (l : List (Int × Plc)) (x : Plc) : List (Int × Plc) := if l.any (fun q => decide (q.1 = x.ring)) then l else l ++ [(x.ring, x)]
def leftL (K : List Plc) : List (Int × Plc) := K.foldl leftS []
def assoc (l : List (Int × Plc)) (r : Int) : Option Plc := (l.find? fun q => decide (q.1 = r)).map Prod.snd
structure LeftOk (K : List Plc) (l : List (Int × Plc)) : Prop where
  nd : (l.map Prod.fst).Nodup
  eq : ∀ r, assoc l r = plcK K r
theorem find_none {l : List (Int × Plc)} {r : Int} : l.find? (fun q => decide (q.1 = r)) = none ↔ l.any (fun q => decide (q.1 = r)) = false := by
  rw [List.find?_eq_none, List.any_eq_false]
theorem left_ok : ∀ (L K : List Plc) (l : List (Int × Plc)), LeftOk K l → LeftOk (K ++ L) (L.foldl leftS l)
  | [], K, l, h => by rwa [List.append_nil]
  | x :: r, K, l, h => by
    have : LeftOk (K ++ [x]) (leftS l x) := by
      unfold leftS
      cases ha : l.any (fun q => decide (q.1 = x.ring)) with
      | true =>
        rw [if_pos rfl]
        refine ⟨h.nd, fun s => ?_⟩
        rw [h.eq]
        unfold plcK
        rw [List.find?_append]
        cases hf : K.find? (fun x => decide (x.ring = s)) with
        | some y => rfl
        | none =>
          by_cases hs : x.ring = s
          · exfalso
            have h2 := h.eq s
            unfold plcK at h2
            rw [hf] at h2
            unfold assoc at h2
            rw [Option.map_eq_none_iff, find_none] at h2
            rw [hs, h2] at ha
            cases ha
          · simp [hs]
      | false =>
        rw [if_neg (by simp)]
        refine ⟨?_, fun s => ?_⟩
        · rw [List.map_append, List.nodup_append]
          refine ⟨h.nd, by simp, fun a ha' b hb e => ?_⟩
          simp only [List.map_cons, List.map_nil, List.mem_singleton] at hb
          obtain ⟨q, hq, rfl⟩ := List.mem_map.1 ha'
          have := List.any_eq_false.1 ha q hq
          simp at this
          exact this (by rw [e, hb])
        · have h2 := h.eq s
          unfold assoc plcK at *
          rw [List.find?_append, List.find?_append, ← h2]
          cases hf : l.find? (fun q => decide (q.1 = s)) with
          | some y => rfl
          | none => by_cases hs : x.ring = s <;> simp [hs]
    have := left_ok r (K ++ [x]) _ this
    rw [List.append_assoc] at this
    exact this
theorem leftL_ok (K : List Plc) : LeftOk K (leftL K) := left_ok K [] [] ⟨List.nodup_nil, fun r => rfl⟩
theorem leftL_len (K : List Plc) : (leftL K).length ≤ K.length := by
  have : ∀ (L : List Plc) (l : List (Int × Plc)), (L.foldl leftS l).length ≤ l.length + L.length := by
    intro L
    induction L with
    | nil => intro l; simp
    | cons x r ih =>
      intro l
      rw [List.foldl_cons]
      have h1 := ih (leftS l x)
      have h2 : (leftS l x).length ≤ l.length + 1 := by unfold leftS; split <;> simp
      rw [List.length_cons]
      omega
  have h := this K []
  simpa [leftL] using h
def farD (p : List Int × List Gat) (n r : Int) : Int := (farT p.1 p.2 n r).getD 0
def stepsR (p : List Int × List Gat) (K : List Plc) (a b : Int) : Bool := match plcK K a, plcK K b with
  | some x, some y => (List.range 8).any fun i => decide (farT p.1 p.2 ((i + 1 : Nat) : Int) a = some b) && (hasC x.members ((i + 1 : Nat) : Int) && hasC y.members ((i + 1 : Nat) : Int))
  | _, _ => false
inductive Rch (st : Int → Int → Bool) (a : Int) : Int → Prop
  | refl : Rch st a a
  | step {b c : Int} (h : Rch st a b) (hs : st b c = true) : Rch st a c
theorem Rch.trans {st : Int → Int → Bool} {a b c : Int} (h : Rch st a b) (h2 : Rch st b c) : Rch st a c := by
  induction h2 with
  | refl => exact h
  | step _ hs ih => exact ih.step hs
abbrev SV : Type := List Plc × List (Int × Plc)
def dfsP (p : List Int × List Gat) : Nat → Plc → SV → SV
  | 0, _, s => s
  | k + 1, x, s => (gwsT p.1 p.2 x.ring).foldl (fun s n => match assoc s.2 (farD p n x.ring) with
    | some y => if hasC x.members n && hasC y.members n then dfsP p k y s else s
    | none => s) (s.1 ++ [x], s.2.filter fun q => decide (q.1 ≠ x.ring))
def dStep (p : List Int × List Gat) (k : Nat) (x : Plc) (s : SV) (n : Int) : SV := match assoc s.2 (farD p n x.ring) with
  | some y => if hasC x.members n && hasC y.members n then dfsP p k y s else s
  | none => s
theorem dfsP_succ (p : List Int × List Gat) (k : Nat) (x : Plc) (s : SV) : dfsP p (k + 1) x s = (gwsT p.1 p.2 x.ring).foldl (dStep p k x) (s.1 ++ [x], s.2.filter fun q => decide (q.1 ≠ x.ring)) := rfl
structure InvS (K : List Plc) (s : SV) : Prop where
  eq : s.2 = (leftL K).filter fun q => !(s.1.map Plc.ring).contains q.1
  pl : ∀ y ∈ s.1, plcK K y.ring = some y
  nd : (s.1.map Plc.ring).Nodup
theorem assoc_filter {l : List (Int × Plc)} {f : Int → Bool} (r : Int) : assoc (l.filter fun q => f q.1) r = if f r then assoc l r else none := by
  unfold assoc
  induction l with
  | nil => simp
  | cons q t ih =>
    rw [List.filter_cons]
    by_cases hq : q.1 = r
    · subst hq
      cases hf : f q.1 with
      | true => rw [if_pos rfl, if_pos rfl, List.find?_cons_of_pos (by simp), List.find?_cons_of_pos (by simp)]
      | false => rw [if_neg (by simp), if_neg (by simp)]; rw [ih, hf]; simp
    · cases hf : f q.1 with
      | true => rw [if_pos rfl, List.find?_cons_of_neg (by simpa using hq), List.find?_cons_of_neg (by simpa using hq), ih]
      | false => rw [if_neg (by simp), List.find?_cons_of_neg (by simpa using hq), ih]
theorem InvS.assoc {K : List Plc} {s : SV} (h : InvS K s) (r : Int) : Go.Proofs.Ytgblmkpfkcibiaa.assoc s.2 r = if (s.1.map Plc.ring).contains r then none else plcK K r := by
  rw [h.eq, assoc_filter (f := fun r => !(s.1.map Plc.ring).contains r), (leftL_ok K).eq]
  cases (s.1.map Plc.ring).contains r <;> rfl
theorem InvS.add {K : List Plc} {s : SV} (h : InvS K s) {x : Plc} (hx : Go.Proofs.Ytgblmkpfkcibiaa.assoc s.2 x.ring = some x) : InvS K (s.1 ++ [x], s.2.filter fun q => decide (q.1 ≠ x.ring)) := by
  rw [h.assoc] at hx
  split at hx
  · cases hx
  rename_i hn
  refine ⟨?_, fun y hy => ?_, ?_⟩
  · simp only
    rw [h.eq, List.filter_filter]
    refine List.filter_congr fun q _ => ?_
    rw [List.map_append, List.contains_append, Bool.not_or, Bool.and_comm]
    congr 1
    simp
  · rcases List.mem_append.1 hy with hy | hy
    · exact h.pl y hy
    · rw [List.mem_singleton] at hy; rw [hy]; exact hx
  · show ((s.1 ++ [x]).map Plc.ring).Nodup
    rw [List.map_append, List.nodup_append]
    refine ⟨h.nd, by simp, fun a ha b hb e => hn ?_⟩
    simp only [List.map_cons, List.map_nil, List.mem_singleton] at hb
    rw [← hb, ← e]
    simpa using ha
theorem filter_lt {l : List (Int × Plc)} {r : Int} (h : (assoc l r).isSome = true) : (l.filter fun q => decide (q.1 ≠ r)).length < l.length := by
  have : ∃ q ∈ l, q.1 = r := by
    unfold assoc at h
    rw [Option.isSome_map, List.find?_isSome] at h
    obtain ⟨q, hq, he⟩ := h
    exact ⟨q, hq, by simpa using he⟩
  obtain ⟨q, hq, he⟩ := this
  have h1 := List.length_filter_lt_length_iff_exists (p := fun q : Int × Plc => decide (q.1 ≠ r)) (l := l)
  exact h1.2 ⟨q, hq, by simp [he]⟩
theorem far_gws {R : List Int} {G : List Gat} {n r : Int} : n ∈ gwsT R G r ↔ (1 ≤ n ∧ n ≤ 8) ∧ (farT R G n r).isSome = true := by
  unfold gwsT; rw [gwsTo_mem]; rfl
theorem stepsR_iff {p : List Int × List Gat} {K : List Plc} {a b : Int} : stepsR p K a b = true ↔ ∃ x y n, plcK K a = some x ∧ plcK K b = some y ∧ n ∈ gwsT p.1 p.2 a ∧ farT p.1 p.2 n a = some b ∧ hasC x.members n = true ∧ hasC y.members n = true := by
  unfold stepsR
  cases ha : plcK K a with
  | none => simp
  | some x =>
    cases hb : plcK K b with
    | none => simp
    | some y =>
      simp only [List.any_eq_true, List.mem_range, Bool.and_eq_true, decide_eq_true_eq]
      constructor
      · rintro ⟨i, hi, h1, h2, h3⟩
        exact ⟨x, y, _, rfl, rfl, far_gws.2 ⟨by omega, by rw [h1]; rfl⟩, h1, h2, h3⟩
      · rintro ⟨x', y', n, e1, e2, hn, h1, h2, h3⟩
        cases e1; cases e2
        have hr := (far_gws.1 hn).1
        refine ⟨n.toNat - 1, by omega, ?_⟩
        have e : ((n.toNat - 1 + 1 : Nat) : Int) = n := by omega
        rw [e]
        exact ⟨h1, h2, h3⟩
structure DoneS (p : List Int × List Gat) (K : List Plc) (r : Int) (s s' : SV) (t : List Plc) : Prop where
  inv : InvS K s'
  eq : s'.1 = s.1 ++ t
  rch : ∀ y ∈ t, Rch (stepsR p K) r y.ring
  clo : ∀ y ∈ t, ∀ b, stepsR p K y.ring b = true → b ∈ s'.1.map Plc.ring
  len : s'.2.length ≤ s.2.length
theorem dfs_done (p : List Int × List Gat) (K : List Plc) : ∀ (k : Nat) (x : Plc) (s : SV), InvS K s → assoc s.2 x.ring = some x → s.2.length ≤ k → ∃ t, DoneS p K x.ring s (dfsP p k x s) t ∧ x ∈ t
  | 0, x, s, hi, hx, hl => by
    have : s.2 = [] := List.eq_nil_of_length_eq_zero (by omega)
    rw [this] at hx
    cases hx
  | k + 1, x, s, hi, hx, hl => by
    rw [dfsP_succ]
    have hi0 := hi.add hx
    have hlt := filter_lt (l := s.2) (r := x.ring) (by rw [hx]; rfl)
    obtain ⟨s0, hs0⟩ : ∃ s0 : SV, s0 = (s.1 ++ [x], s.2.filter fun q => decide (q.1 ≠ x.ring)) := ⟨_, rfl⟩
    have hpx : plcK K x.ring = some x := by
      have := hi0.pl x (by simp)
      exact this
    rw [← hs0] at hi0 ⊢
    have hs02 : s0.2.length < s.2.length := by rw [hs0]; exact hlt
    have hl0 : s0.2.length ≤ k := by omega
    have key : ∀ (ns : List Int) (s1 : SV) (t : List Plc), (∀ n ∈ ns, n ∈ gwsT p.1 p.2 x.ring) → DoneS p K x.ring s0 s1 t →
        ∃ t', DoneS p K x.ring s0 (ns.foldl (dStep p k x) s1) t' ∧ (∀ z ∈ s1.1.map Plc.ring, z ∈ (ns.foldl (dStep p k x) s1).1.map Plc.ring) ∧ ∀ n ∈ ns, ∀ b y, farT p.1 p.2 n x.ring = some b → plcK K b = some y → hasC x.members n = true → hasC y.members n = true → b ∈ (ns.foldl (dStep p k x) s1).1.map Plc.ring := by
      intro ns
      induction ns with
      | nil => intro s1 t _ hd; exact ⟨t, hd, fun z hz => hz, fun n hn => by cases hn⟩
      | cons n ns ih =>
        intro s1 t hns hd
        have hn := hns n List.mem_cons_self
        have hns' : ∀ m ∈ ns, m ∈ gwsT p.1 p.2 x.ring := fun m hm => hns m (List.mem_cons_of_mem _ hm)
        obtain ⟨b, hb⟩ := Option.isSome_iff_exists.1 (far_gws.1 hn).2
        have hfd : farD p n x.ring = b := by unfold farD; rw [hb]; rfl
        -- what one node does
        have one : ∃ t1, DoneS p K x.ring s0 (dStep p k x s1 n) t1 ∧ (∀ z ∈ s1.1.map Plc.ring, z ∈ (dStep p k x s1 n).1.map Plc.ring) ∧ ∀ y, plcK K b = some y → hasC x.members n = true → hasC y.members n = true → b ∈ (dStep p k x s1 n).1.map Plc.ring := by
          unfold dStep
          rw [hfd, hd.inv.assoc]
          by_cases hc : (s1.1.map Plc.ring).contains b = true
          · rw [if_pos hc]
            exact ⟨t, hd, fun z hz => hz, fun y _ _ _ => by simpa using hc⟩
          · rw [if_neg hc]
            cases hpb : plcK K b with
            | none => exact ⟨t, hd, fun z hz => hz, fun y h => by cases h⟩
            | some y =>
              have hyr := plcK_ring hpb
              cases hh : hasC x.members n && hasC y.members n with
              | false =>
                simp only [hh, Bool.false_eq_true, if_false]
                exact ⟨t, hd, fun z hz => hz, fun y' e h1 h2 => by cases e; rw [h1, h2] at hh; cases hh⟩
              | true =>
                simp only [hh, if_true]
                have ha : assoc s1.2 y.ring = some y := by rw [hd.inv.assoc, hyr, if_neg hc, hpb]
                obtain ⟨u, hu, hyu⟩ := dfs_done p K k y s1 hd.inv ha (by have := hd.len; omega)
                have hst : stepsR p K x.ring y.ring = true := by
                  rw [Bool.and_eq_true] at hh
                  rw [hyr]
                  exact stepsR_iff.2 ⟨x, y, n, hpx, hpb, hn, hb, hh.1, hh.2⟩
                have hmono : ∀ z ∈ s1.1.map Plc.ring, z ∈ (dfsP p k y s1).1.map Plc.ring := fun z hz => by
                  rw [hu.eq, List.map_append]; exact List.mem_append_left _ hz
                refine ⟨t ++ u, ⟨hu.inv, by rw [hu.eq, hd.eq, List.append_assoc], fun z hz => ?_, fun z hz c hc2 => ?_, by have := hu.len; have := hd.len; omega⟩, hmono, fun y' e h1 h2 => ?_⟩
                · rcases List.mem_append.1 hz with hz | hz
                  · exact hd.rch z hz
                  · exact (Rch.refl.step hst).trans (hu.rch z hz)
                · rcases List.mem_append.1 hz with hz | hz
                  · exact hmono c (hd.clo z hz c hc2)
                  · exact hu.clo z hz c hc2
                · rw [← hyr, hu.eq, List.map_append]
                  exact List.mem_append_right _ (List.mem_map_of_mem hyu)
        obtain ⟨t1, hd1, hm1, hb1⟩ := one
        obtain ⟨t2, hd2, hm2, hb2⟩ := ih (dStep p k x s1 n) t1 hns' hd1
        rw [List.foldl_cons]
        refine ⟨t2, hd2, fun z hz => hm2 z (hm1 z hz), fun m hm c y hc hy h1 h2 => ?_⟩
        rcases List.mem_cons.1 hm with rfl | hm
        · rw [hb] at hc
          cases hc
          exact hm2 _ (hb1 y hy h1 h2)
        · exact hb2 m hm c y hc hy h1 h2
    obtain ⟨t, hd, hm, hb⟩ := key (gwsT p.1 p.2 x.ring) s0 [] (fun n hn => hn) ⟨hi0, by rw [List.append_nil], fun y hy => (by cases hy), fun y hy => (by cases hy), Nat.le_refl _⟩
    refine ⟨x :: t, ⟨hd.inv, by rw [hd.eq, hs0]; simp, fun y hy => ?_, fun y hy b hst => ?_, by have := hd.len; omega⟩, List.mem_cons_self⟩
    · rcases List.mem_cons.1 hy with rfl | hy
      · exact Rch.refl
      · exact hd.rch y hy
    · rcases List.mem_cons.1 hy with rfl | hy
      · obtain ⟨x', y', n, e1, e2, hn, h1, h2, h3⟩ := stepsR_iff.1 hst
        rw [hpx] at e1
        cases e1
        exact hb n hn b y' h1 e2 h2 h3
      · exact hd.clo y hy b hst
def viewP (p : List Int × List Gat) (fr : Int) (K : List Plc) : List Plc :=
  if chkP p.1 p.2 && ringG p.1 fr then (match plcK K fr with
    | some x => isP (dfsP p (leftL K).length x ([], leftL K)).1
    | none => [])
  else []
structure ViewIs (p : List Int × List Gat) (K : List Plc) (fr : Int) (v : List Plc) : Prop where
  pl : ∀ y ∈ v, plcK K y.ring = some y
  asc : (v.map Plc.ring).Pairwise (· < ·)
  mem : ∀ r, r ∈ v.map Plc.ring ↔ Rch (stepsR p K) fr r
theorem ViewIs.uniq {p : List Int × List Gat} {K : List Plc} {fr : Int} {v u : List Plc} (h : ViewIs p K fr v) (h2 : ViewIs p K fr u) : v = u := by
  have e : v.map Plc.ring = u.map Plc.ring := asc_extM h.asc h2.asc fun x => by rw [h.mem, h2.mem]
  have key : ∀ l : List Plc, (∀ y ∈ l, plcK K y.ring = some y) → (l.map Plc.ring).map (fun r => (plcK K r).getD zP) = l := by
    intro l hl
    rw [List.map_map]
    conv => rhs; rw [← List.map_id l]
    exact List.map_congr_left fun y hy => by simp [hl y hy]
  rw [← key v h.pl, ← key u h2.pl, e]
theorem view_is {p : List Int × List Gat} {fr : Int} {K : List Plc} {x : Plc} (hx : plcK K fr = some x) : ViewIs p K fr (isP (dfsP p (leftL K).length x ([], leftL K)).1) := by
  have hxr := plcK_ring hx
  have hi0 : InvS K ([], leftL K) := ⟨(List.filter_eq_self.2 (fun q _ => rfl)).symm, fun y hy => (by cases hy), List.nodup_nil⟩
  obtain ⟨t, hd, hxt⟩ := dfs_done p K (leftL K).length x ([], leftL K) hi0 (by rw [(leftL_ok K).eq, hxr, hx]) (Nat.le_refl _)
  have he : (dfsP p (leftL K).length x ([], leftL K)).1 = t := by rw [hd.eq]; rfl
  have hinv := hd.inv
  have hclo := hd.clo
  rw [he] at hclo ⊢
  have hpm := isP_perm t
  have hpl := hinv.pl
  have hnd := hinv.nd
  rw [he] at hpl hnd
  refine ⟨fun y hy => hpl y (hpm.mem_iff.1 hy), ?_, fun r => ?_⟩
  · have h1 := isP_sor t
    have h2 : ((isP t).map Plc.ring).Nodup := (hpm.map Plc.ring).nodup_iff.2 hnd
    rw [List.nodup_iff_pairwise_ne, List.pairwise_map] at h2
    rw [List.pairwise_map]
    unfold SorP at h1
    exact (List.Pairwise.and h1 h2).imp fun {a b} h => by have := h.1; have := h.2; omega
  · rw [(hpm.map Plc.ring).mem_iff]
    constructor
    · intro hr
      obtain ⟨y, hy, rfl⟩ := List.mem_map.1 hr
      have := hd.rch y hy
      rwa [hxr] at this
    · intro hr
      induction hr with
      | refl => rw [← hxr]; exact List.mem_map_of_mem hxt
      | step _ hs ih =>
        obtain ⟨y, hy, rfl⟩ := List.mem_map.1 ih
        exact hclo y hy _ hs
end Go.Proofs.Ytgblmkpfkcibiaa

namespace Go.Proofs.Ytgblmkpfkcibiaa
open Go.Hb

def ofR (l : List Plc) (r : Int) : List Plc := l.filter fun x => decide (x.ring = r)
theorem ofR_append (a b : List Plc) (r : Int) : ofR (a ++ b) r = ofR a r ++ ofR b r := List.filter_append ..
theorem ofR_none {l : List Plc} {r : Int} (h : ∀ x ∈ l, ¬ x.ring = r) : ofR l r = [] := by
  unfold ofR
  rw [List.filter_eq_nil_iff]
  intro x hx
  simpa using h x hx
theorem sor_uniq : ∀ {X Y : List Plc}, SorP X → SorP Y → (∀ r, ofR X r = ofR Y r) → X = Y
  | [], [], _, _, _ => rfl
  | [], y :: Y, _, _, h => by
    have := h y.ring
    unfold ofR at this
    simp at this
  | x :: X, [], _, _, h => by
    have := h x.ring
    unfold ofR at this
    simp at this
  | x :: X, y :: Y, hX, hY, h => by
    have hX' := List.pairwise_cons.1 hX
    have hY' := List.pairwise_cons.1 hY
    have hmem : ∀ {X Y : List Plc}, (∀ r, ofR X r = ofR Y r) → ∀ z ∈ X, z ∈ Y := by
      intro X Y h z hz
      have h1 : z ∈ ofR X z.ring := List.mem_filter.2 ⟨hz, by simp⟩
      rw [h] at h1
      exact (List.mem_filter.1 h1).1
    have e : x.ring = y.ring := by
      have h1 := hmem h x List.mem_cons_self
      have h2 := hmem (fun r => (h r).symm) y List.mem_cons_self
      have h3 : y.ring ≤ x.ring := by
        rcases List.mem_cons.1 h1 with rfl | h1
        · exact Int.le_refl _
        · exact hY'.1 x h1
      have h4 : x.ring ≤ y.ring := by
        rcases List.mem_cons.1 h2 with rfl | h2
        · exact Int.le_refl _
        · exact hX'.1 y h2
      omega
    have h5 := h x.ring
    unfold ofR at h5
    rw [List.filter_cons_of_pos (by simp), List.filter_cons_of_pos (by simp [e])] at h5
    simp only [List.cons.injEq] at h5
    obtain ⟨rfl, h6⟩ := h5
    have ih := sor_uniq (X := X) (Y := Y) hX'.2 hY'.2 fun r => by
      have h7 := h r
      unfold ofR at h7 ⊢
      by_cases hr : x.ring = r
      · rw [List.filter_cons_of_pos (by simp [hr]), List.filter_cons_of_pos (by simp [hr])] at h7
        simpa using h7
      · rw [List.filter_cons_of_neg (by simp [hr]), List.filter_cons_of_neg (by simp [hr])] at h7
        exact h7
    rw [ih]
theorem putP_ofR {l : List Plc} (hs : SorP l) (x : Plc) (r : Int) : ofR (putP l x) r = ofR (l ++ [x]) r := by
  have hk := cutP_spec l x l.length (Nat.le_refl _)
  have hle := cutP_le l x l.length
  show ofR (l.take (cutP l x l.length) ++ x :: l.drop (cutP l x l.length)) r = _
  generalize cutP l x l.length = k at hk hle
  have e : l = l.take k ++ l.drop k := (List.take_append_drop k l).symm
  have hd : ∀ y ∈ l.drop k, x.ring < y.ring := by
    intro y hy
    obtain ⟨j, hj, rfl⟩ := List.getElem_of_mem hy
    have hj' := hj
    rw [List.length_drop] at hj'
    have := hk.1 (k + j) (by omega) (by omega)
    rw [getD_plc l (by omega)] at this
    rw [List.getElem_drop]
    exact this
  rw [show l ++ [x] = l.take k ++ l.drop k ++ [x] by rw [← e]]
  rw [ofR_append, ofR_append, ofR_append, List.append_assoc]
  congr 1
  by_cases hr : x.ring = r
  · have h0 : ofR (l.drop k) r = [] := ofR_none fun y hy => by have := hd y hy; omega
    rw [h0, List.nil_append]
    unfold ofR at h0 ⊢
    rw [List.filter_cons_of_pos (by simp [hr]), h0, List.filter_cons_of_pos (by simp [hr])]
    rfl
  · unfold ofR
    rw [List.filter_cons_of_neg (by simp [hr]), List.filter_cons_of_neg (by simp [hr])]
    simp
theorem isP_ofR (l : List Plc) (r : Int) : ofR (isP l) r = ofR l r := by
  have : ∀ (l m : List Plc), SorP m → ofR (l.foldl putP m) r = ofR (m ++ l) r := by
    intro l
    induction l with
    | nil => intro m _; rw [List.append_nil]; rfl
    | cons x t ih =>
      intro m hm
      rw [List.foldl_cons, ih _ (putP_sor x hm), ofR_append, putP_ofR hm, ← ofR_append, List.append_assoc, List.singleton_append]
  exact this l [] List.Pairwise.nil
theorem isP_of {X Y : List Plc} (hs : SorP X) (h : ∀ r, ofR X r = ofR Y r) : X = isP Y := sor_uniq hs (isP_sor Y) fun r => by rw [h, isP_ofR]
theorem isP_self {X : List Plc} (hs : SorP X) : isP X = X := (isP_of hs fun _ => rfl).symm
theorem isP_split {A B C D : List Plc} (h1 : SorP (A ++ B)) (h2 : SorP (C ++ D)) (hCB : ∀ x ∈ C, ∀ y ∈ B, x.ring < y.ring) (hAD : ∀ x ∈ A, ∀ y ∈ D, x.ring ≤ y.ring) :
    isP (A ++ B ++ (C ++ D)) = isP (A ++ C) ++ isP (B ++ D) := by
  have p1 := List.pairwise_append.1 h1
  have p2 := List.pairwise_append.1 h2
  refine (isP_of ?_ fun r => ?_).symm
  · refine List.pairwise_append.2 ⟨isP_sor _, isP_sor _, fun x hx y hy => ?_⟩
    rcases List.mem_append.1 ((isP_perm _).mem_iff.1 hx) with hx | hx
    · rcases List.mem_append.1 ((isP_perm _).mem_iff.1 hy) with hy | hy
      · exact p1.2.2 x hx y hy
      · exact hAD x hx y hy
    · rcases List.mem_append.1 ((isP_perm _).mem_iff.1 hy) with hy | hy
      · have := hCB x hx y hy; omega
      · exact p2.2.2 x hx y hy
  · rw [ofR_append, isP_ofR, isP_ofR, ofR_append, ofR_append, ofR_append, ofR_append, ofR_append, List.append_assoc, List.append_assoc]
    congr 1
    rw [← List.append_assoc, ← List.append_assoc]
    congr 1
    by_cases h : ∃ x ∈ C, x.ring = r
    · obtain ⟨x, hx, e⟩ := h
      have : ofR B r = [] := ofR_none fun y hy => by have := hCB x hx y hy; omega
      rw [this, List.append_nil, List.nil_append]
    · have : ofR C r = [] := ofR_none fun y hy e => h ⟨y, hy, e⟩
      rw [this, List.append_nil, List.nil_append]
end Go.Proofs.Ytgblmkpfkcibiaa

namespace Go.Proofs.Ytgblmkpfkcibiaa
open Go.Hb

section
variable {P : Program} {C : World → Prop} {f : Frm} {T T' T'' : TypeId} {x y : Operand}
theorem Ev.convU [ToInt P T' T'' .u64] {a : Int} (hx : f.ev x = .int .i64 a) (h0 : 0 ≤ a) (h1 : a < 18446744073709551616) : Ev P C f (.convert T' T'' x) T (.int .u64 a) := by
  have h := Ev.conv (P := P) (C := C) (T := T) (T' := T') (T'' := T'') (k := .u64) hx
  have e : IntKind.wrap .u64 a = a := by unfold IntKind.wrap; simp [IntKind.signed, IntKind.bits]; omega
  rwa [e] at h
theorem Ev.convI [ToInt P T' T'' .i64] {a : Int} (hx : f.ev x = .int .u64 a) (h0 : 0 ≤ a) (h1 : a ≤ 9223372036854775807) : Ev P C f (.convert T' T'' x) T (.int .i64 a) := by
  have h := Ev.conv (P := P) (C := C) (T := T) (T' := T') (T'' := T'') (k := .i64) hx
  rwa [wrap_i64 (by omega) h1] at h
theorem Ev.half {k k' : IntKind} {a : Int} {h : Nat} (hx : f.ev x = .int k a) (hy : f.ev y = .int k' 1) (hb : 1 ≤ k.bits) (he : a.fdiv 2 = (h : Int)) : Ev P C f (.binOp .shr T' x y T'') T (.int k (h : Int)) := by
  have h1 := Ev.shr (P := P) (C := C) (T := T) (T' := T') (T'' := T'') hx hy (by omega)
  rw [show (min (1 : Int).toNat k.bits) = 1 by show min 1 k.bits = 1; omega] at h1
  rw [show ((2 : Int) ^ 1) = 2 by decide, he] at h1
  exact h1
end
theorem getD_app (A B : List Plc) (i : Nat) : (A ++ B).getD i zP = if i < A.length then A.getD i zP else B.getD (i - A.length) zP := by
  rw [List.getD_eq_getElem?_getD, List.getD_eq_getElem?_getD, List.getD_eq_getElem?_getD, List.getElem?_append]
  split <;> rfl
theorem per_rot (H B C T : List Plc) : perI (H ++ (B ++ (C ++ T))) (rotI H.length (H.length + B.length) (H.length + B.length + C.length)) = H ++ (C ++ (B ++ T)) := by
  refine ext_getD (by rw [perI_len]; simp; omega) fun i hi => ?_
  rw [perI_len] at hi
  rw [perI_getD _ _ hi]
  unfold rotI
  simp only [getD_app]
  repeat' split
  all_goals first
    | omega
    | (congr 1; omega)
    | rfl
theorem sorP_mid (H X T : List Plc) : sorP (H ++ (X ++ T)) H.length X.length = H ++ (isP X ++ T) := by
  unfold sorP
  rw [List.take_left, List.drop_left, List.take_left, show H ++ (X ++ T) = (H ++ X) ++ T by rw [List.append_assoc], show H.length + X.length = (H ++ X).length by simp, List.drop_left]
end Go.Proofs.Ytgblmkpfkcibiaa

namespace Go.Proofs.Ytgblmkpfkcibiaa
open Go.Hb
attribute [local irreducible] LR CW At Ev thn blk finK noG again CallsTo DW QL dnext TW DP gpost
set_option maxRecDepth 100000

theorem at_mid {H X T : List Plc} {i : Nat} (h : i < X.length) : (H ++ (X ++ T))[H.length + i]? = some X[i] := by
  rw [List.getElem?_append_right (by omega), show H.length + i - H.length = i by omega, List.getElem?_append_left h, List.getElem?_eq_getElem h]
theorem half_of (i j : Nat) : ((i : Int) + (j : Int)).fdiv 2 = (((i + j) / 2 : Nat) : Int) := by
  rw [Int.fdiv_eq_ediv_of_nonneg _ (by decide)]
  omega
theorem isP_one {x : Plc} {Y : List Plc} (hY : SorP Y) {u : Nat} (h1 : ∀ y ∈ Y.take u, y.ring < x.ring) (h2 : ∀ y ∈ Y.drop u, x.ring ≤ y.ring) : isP ([x] ++ Y) = Y.take u ++ x :: Y.drop u := by
  have hs := List.pairwise_append.1 (show SorP (Y.take u ++ Y.drop u) by rw [List.take_append_drop]; exact hY)
  have h := isP_split (A := []) (B := [x]) (C := Y.take u) (D := Y.drop u) (List.pairwise_singleton _ _) (by rw [List.take_append_drop]; exact hY) (fun y hy z hz => by rw [List.mem_singleton] at hz; subst hz; exact h1 y hy) (fun y hy => by cases hy)
  have e2 : isP ([x] ++ Y.drop u) = [x] ++ Y.drop u := isP_self (List.pairwise_cons.2 ⟨h2, hs.2.1⟩)
  rw [List.take_append_drop, List.nil_append, List.nil_append, isP_self hs.1, e2] at h
  exact h
theorem take_low {Y : List Plc} (hY : SorP Y) {r : Int} {u : Nat} (hu : u ≤ Y.length) (h : ∀ (k : Nat) (hk : k < Y.length), u = k + 1 → (Y[k]).ring < r) : ∀ y ∈ Y.take u, y.ring < r := by
  intro y hy
  obtain ⟨j, hj, rfl⟩ := List.getElem_of_mem hy
  rw [List.length_take] at hj
  rw [List.getElem_take]
  have h1 := h (u - 1) (by omega) (by omega)
  rcases Nat.lt_or_ge j (u - 1) with h2 | h2
  · have := List.pairwise_iff_getElem.1 hY j (u - 1) (by omega) (by omega) h2
    omega
  · have e : j = u - 1 := by omega
    subst e; exact h1
theorem drop_high {Y : List Plc} (hY : SorP Y) {r : Int} {u : Nat} (h : ∀ (hk : u < Y.length), r ≤ (Y[u]).ring) : ∀ y ∈ Y.drop u, r ≤ y.ring := by
  intro y hy
  obtain ⟨j, hj, rfl⟩ := List.getElem_of_mem hy
  rw [List.length_drop] at hj
  rw [List.getElem_drop]
  have h1 := h (by omega)
  rcases Nat.eq_zero_or_pos j with h2 | h2
  · subst h2; exact h1
  · have := List.pairwise_iff_getElem.1 hY u (u + j) (by omega) (by omega) (by omega)
    omega
theorem upto_set (H Y T : List Plc) (x : Plc) {t : Nat} (h : t < Y.length) : ((H ++ (Y.take t ++ (x :: (Y.drop t ++ T)))).set (H.length + t) Y[t]).set (H.length + t + 1) x = H ++ (Y.take (t + 1) ++ (x :: (Y.drop (t + 1) ++ T))) := by
  rw [List.set_append_right _ _ (by omega), show H.length + t - H.length = t by omega, List.set_append_right _ _ (by omega), show H.length + t + 1 - H.length = t + 1 by omega]
  congr 1
  have hl : (Y.take t).length = t := by rw [List.length_take]; omega
  rw [List.set_append_right _ _ (by omega), hl, Nat.sub_self, List.set_append_right _ _ (by omega), hl, show t + 1 - t = 1 by omega, show Y.drop t = Y[t] :: Y.drop (t + 1) from List.drop_eq_getElem_cons h, List.take_add_one, List.getElem?_eq_getElem h, List.append_assoc]
  rfl
structure BsS where
  i : Nat
  j : Nat
set_option maxHeartbeats 4000000 in
theorem m128a (ad : Option Addr) (c : Nat) (H Y T : List Plc) (x : Plc) (N : Nat) (w : World) (hN : (H ++ ([x] ++ (Y ++ T))).length = N) (hY : SorP Y) (hYn : Y ≠ []) (h : (pN ad N c (H ++ ([x] ++ (Y ++ T)))).holds w) (hn : N ≤ 140737488355328) :
    CallsTo Try.prog 128 [.slice ad N c, .int .i64 H.length, .int .i64 ((H.length + 1 : Nat) : Int), .int .i64 ((H.length + 1 + Y.length : Nat) : Int), .func (.func 85) #[] #[]] w fun v w' => v = .tuple #[] ∧ Step (pN ad N c (H ++ ([x] ++ (Y ++ T)))) (pN ad N c (H ++ (isP ([x] ++ Y) ++ T))) w w' := by
  have hS0 : St w (pN ad N c (H ++ ([x] ++ (Y ++ T)))).foot [pN ad N c (H ++ ([x] ++ (Y ++ T)))] w := St.one h (fun k hk => (World.ownsRow.lt h k hk).2) (osl.dep _ _ _ _ _)
  generalize hF : (pN ad N c (H ++ ([x] ++ (Y ++ T)))).foot = F at *
  have hlen : H.length + (1 + (Y.length + T.length)) = N := by rw [← hN]; simp; omega
  have hYp : 0 < Y.length := List.length_pos_iff.2 hYn
  refine go_in (n := 220) hS0 Try.func128 rfl rfl ?_
  obtain ⟨hh, hhd⟩ : ∃ hh, H.length = hh := ⟨_, rfl⟩
  rw [hhd] at hlen ⊢
  refine CW_fact (φ := ∃ ba oa, ad = some ⟨ba, oa, none⟩) (fun w1 hw1 => (ownsRow_rd (hw1.holds (pN ad N c (H ++ ([x] ++ (Y ++ T)))) memZ)).form (fun e => by have h1 := congrArg List.length e; rw [pcs_length, hN, List.length_nil] at h1; omega)) ?_
  rintro ⟨ba, oa, rfl⟩
  repeat'(first|refine kv' ?_|apply jJ|refine jE' ?_|refine jp' ?_|(apply jc;kernel_rfl)|refine kg' ?_|refine kG' ?_|refine kB' fun _=>?_|refine kA' fun _=>?_|refine kK' fun _=>?_|refine kU' ?_|(apply subX;(iterate 2 exact rfl);(iterate 2(first|omega|(dsimp only;omega)));exact rfl)|((first|refine kR' ?_ ?_|refine kQ' ?_ ?_);all_goals(intro hc;try simp only[hcs]at hc;try(exfalso;first|contradiction|omega))))
  apply CW.loop [10, 11, 12, 31, 32, 33, 34, 35, 36, 37, 38, 39, 40, 41, 42, 43, 44, 45, 46, 47, 48, 49, 50, 51, 52, 53] (fun s : BsS => s.i ≤ s.j ∧ s.j ≤ Y.length ∧ (∀ (k : Nat) (hk : k < Y.length), s.i = k + 1 → (Y[k]).ring < x.ring) ∧ (∀ hk : s.j < Y.length, x.ring ≤ (Y[s.j]).ring))
    (fun s => [(10, .int .i64 ((hh + 1 + s.i : Nat) : Int)), (11, .int .i64 ((hh + 1 + s.j : Nat) : Int))]) (fun _ => St w F [pN (some ⟨ba, oa, none⟩) N c (H ++ ([x] ++ (Y ++ T)))]) (fun s => s.j - s.i)
  · exact fun w' hw' => ⟨⟨0, Y.length⟩, ⟨Nat.zero_le _, Nat.le_refl _, (fun k hk e => by simp at e), fun hk => absurd hk (Nat.lt_irrefl _)⟩, ⟨rfl, rfl, trivial⟩, hw'⟩
  rintro ⟨i, j⟩ g ⟨hij, hjY, hlo, hhi⟩
  simp only at hij hjY hlo hhi ⊢
  by_cases hlt : i < j
  · obtain ⟨hm, hhm⟩ : ∃ hm, (hh + 1 + i + (hh + 1 + j)) / 2 = hm := ⟨_, rfl⟩
    have hhe := half_of (hh + 1 + i) (hh + 1 + j)
    rw [hhm] at hhe
    obtain ⟨u, hu⟩ : ∃ u, hm = hh + 1 + u := ⟨hm - (hh + 1), by omega⟩
    have huY : u < Y.length := by omega
    obtain ⟨y, hy⟩ : ∃ y, Y[u] = y := ⟨_, rfl⟩
    have haty : (H ++ ([x] ++ (Y ++ T)))[hm]? = some y := by
      have := at_mid (H := H ++ [x]) (X := Y) (T := T) huY
      rw [List.append_assoc, List.length_append, hhd] at this
      rw [hu, ← hy]
      exact this
    have hatx : (H ++ ([x] ++ (Y ++ T)))[hh]? = some x := by
      have := at_mid (H := H) (X := [x]) (T := Y ++ T) (i := 0) (by simp)
      rw [hhd] at this
      exact this
    repeat'(first|(apply LR.ev; (· apply Ev.convU; (· exact rfl); (· omega); (· omega)); (· exact rfl))|(apply LR.ev; (· apply Ev.half (h := hm); (· exact rfl); (· exact rfl); (· decide); (· exact hhe)); (· exact rfl))|(apply LR.ev; (· apply Ev.convI; (· exact rfl); (· omega); (· omega)); (· exact rfl))|(apply CW.reg_heldC)|refine kv' ?_|apply jJ|refine jE' ?_|refine jp' ?_|(apply jc;kernel_rfl)|refine kg' ?_|refine kG' ?_|refine kB' fun _=>?_|refine kA' fun _=>?_|refine kK' fun _=>?_|refine kU' ?_|(apply addX;(iterate 2 exact rfl);(iterate 2(first|omega|(dsimp only;omega)));exact rfl)|((first|refine kR' ?_ ?_|refine kQ' ?_ ?_);all_goals(intro hc;try simp only[hcs]at hc;try(exfalso;first|contradiction|omega))))
    all_goals (
      apply DW.quiet [0, 1, 2, 3, 4, 5, 6, 7, 8]
      · decide +kernel
      · first | exact fun _ h => h | exact fun _ h => St.sub h subZ
      repeat'(first|(apply QL.ev; (· exact rfl); (· apply Ev.indexAddr; (· exact rfl); (· exact rfl); (· omega); (· omega)); (· exact rfl))|(apply QL.ev; (· exact rfl); (· apply Ev.load_agg_at (cs := Plc.cells x); (· exact rfl); (· exact rfl); (· intro w' hw'; refine pcs_cell (hw'.rd_of_own memZ) hatx ?_; (· omega))); (· exact rfl))|(apply QL.ev; (· exact rfl); (· apply Ev.load_agg_at (cs := Plc.cells y); (· exact rfl); (· exact rfl); (· intro w' hw'; refine pcs_cell (hw'.rd_of_own memZ) haty ?_; (· omega))); (· exact rfl))|refine yv' ?_|refine uv' ?_|refine un' ?_|(refine us' ?_ ?_;all_goals(intro hc;try simp only[hcs]at hc;try(exfalso;first|contradiction|omega)))|apply QL.nil)
      all_goals (show DW _ _ _ _ _ _ _ _))
    all_goals (
      apply DW.loud 9
      · exact rfl
      · decide +kernel
      repeat'(first|refine kg' ?_|refine kG' ?_|apply kM|refine kv' ?_|refine kK' fun _=>?_|refine kU' ?_|refine kB' fun _=>?_|refine kA' fun _=>?_|(apply LR.qcall_val (g := 85) (cap := []) (v := .int .i64 (cmpM y.ring x.ring)); (· exact rfl); (· exact rfl); (· intro w1 h1; exact CallsTo.q (m85 y x w1) h1)))
      all_goals (refine At.stage_same (fun _ h => St.sub h subZ) ?_))
    all_goals (
      apply DW.quiet [10]
      · decide +kernel
      · first | exact fun _ h => h | exact fun _ h => St.sub h subZ
      repeat'(first|(apply QL.ev; (· exact rfl); (· apply Ev.indexAddr; (· exact rfl); (· exact rfl); (· omega); (· omega)); (· exact rfl))|(apply QL.ev; (· exact rfl); (· apply Ev.load_agg_at (cs := Plc.cells x); (· exact rfl); (· exact rfl); (· intro w' hw'; refine pcs_cell (hw'.rd_of_own memZ) hatx ?_; (· omega))); (· exact rfl))|(apply QL.ev; (· exact rfl); (· apply Ev.load_agg_at (cs := Plc.cells y); (· exact rfl); (· exact rfl); (· intro w' hw'; refine pcs_cell (hw'.rd_of_own memZ) haty ?_; (· omega))); (· exact rfl))|refine yv' ?_|refine uv' ?_|refine un' ?_|(refine us' ?_ ?_;all_goals(intro hc;try simp only[hcs]at hc;try(exfalso;first|contradiction|omega)))|apply QL.nil)
      all_goals (show DW _ _ _ _ _ _ _ _))
    all_goals (first | (apply DW.done_thn; (· decide +kernel)) | (apply DW.done; (· decide +kernel)))
    rw [show decide (cmpM y.ring x.ring < 0) = decide (y.ring < x.ring) by
      rw [decide_eq_decide]; unfold cmpM; split <;> (try split) <;> omega]
    by_cases hyx : y.ring < x.ring
    · rw [decide_eq_true hyx]
      repeat'(first|refine kv' ?_|apply jJ|refine jE' ?_|refine jp' ?_|(apply jc;kernel_rfl)|refine kg' ?_|refine kG' ?_|refine kB' fun _=>?_|refine kA' fun _=>?_|refine kK' fun _=>?_|refine kU' ?_|(apply addX;(iterate 2 exact rfl);(iterate 2(first|omega|(dsimp only;omega)));exact rfl)|((first|refine kR' ?_ ?_|refine kQ' ?_ ?_);all_goals(intro hc;try simp only[hcs]at hc;try(exfalso;first|contradiction|omega))))
      refine At.again (⟨u + 1, j⟩ : BsS) ⟨by simp only; omega, hjY, fun k hk e => ?_, hhi⟩ ?_ ⟨?_, rfl, trivial⟩ (fun w' hw' => hw') (by simp only; omega)
      · have e : k = u := by simp only at e; omega
        subst e; rw [hy]; exact hyx
      · (repeat (first | exact Out.refl _ _ | exact Out.mix | (apply Out.upd; (· exact rfl)) | (apply Out.updL; (· exact rfl)) | (apply Out.mixs; (· exact rfl))))
      · exact congrArg (Value.int .i64) (by simp only; omega)
    · rw [decide_eq_false hyx]
      repeat'(first|refine kv' ?_|apply jJ|refine jE' ?_|refine jp' ?_|(apply jc;kernel_rfl)|refine kg' ?_|refine kG' ?_|refine kB' fun _=>?_|refine kA' fun _=>?_|refine kK' fun _=>?_|refine kU' ?_|((first|refine kR' ?_ ?_|refine kQ' ?_ ?_);all_goals(intro hc;try simp only[hcs]at hc;try(exfalso;first|contradiction|omega))))
      refine At.again (⟨i, u⟩ : BsS) ⟨by simp only; omega, by simp only; omega, hlo, fun hk => ?_⟩ ?_ ⟨rfl, ?_, trivial⟩ (fun w' hw' => hw') (by simp only; omega)
      · simp only
        rw [hy]; omega
      · (repeat (first | exact Out.refl _ _ | exact Out.mix | (apply Out.upd; (· exact rfl)) | (apply Out.updL; (· exact rfl)) | (apply Out.mixs; (· exact rfl))))
      · exact congrArg (Value.int .i64) (by simp only; omega)
  have hje : j = i := by omega
  subst hje
  have hres : H ++ (isP ([x] ++ Y) ++ T) = H ++ (Y.take j ++ (x :: (Y.drop j ++ T))) := by
    rw [isP_one hY (take_low hY hjY fun k hk e => hlo k hk e) (drop_high hY hhi), List.append_assoc]; rfl
  rw [hres]
  repeat'(first|refine kv' ?_|apply jJ|refine jE' ?_|refine jp' ?_|(apply jc;kernel_rfl)|refine kg' ?_|refine kG' ?_|refine kB' fun _=>?_|refine kA' fun _=>?_|refine kK' fun _=>?_|refine kU' ?_|(apply subX;(iterate 2 exact rfl);(iterate 2(first|omega|(dsimp only;omega)));exact rfl)|((first|refine kR' ?_ ?_|refine kQ' ?_ ?_);all_goals(intro hc;try simp only[hcs]at hc;try(exfalso;first|contradiction|omega))))
  apply CW.loop [13, 55, 56, 57, 58, 59, 60, 61, 62, 63, 64, 65, 66, 67, 68, 69, 70, 71, 72, 73, 74, 75, 76] (fun t : Nat => t ≤ j) (fun t => [(13, .int .i64 ((hh + t : Nat) : Int))]) (fun t => St w F [pN (some ⟨ba, oa, none⟩) N c (H ++ (Y.take t ++ (x :: (Y.drop t ++ T))))]) (fun t => j - t)
  · exact fun w' hw' => ⟨0, Nat.zero_le _, ⟨rfl, trivial⟩, hw'⟩
  intro t g2 htj
  by_cases hlt2 : t < j
  · have htY : t < Y.length := by omega
    have hset := upto_set H Y T x htY
    have htl : (Y.take t).length = t := by rw [List.length_take]; omega
    have hEl : (H ++ (Y.take t ++ (x :: (Y.drop t ++ T)))).length = N := by simp only [List.length_append, List.length_cons, List.length_drop, htl]; omega
    have hatx : (H ++ (Y.take t ++ (x :: (Y.drop t ++ T))))[hh + t]? = some x := by
      rw [← hhd, List.getElem?_append_right (by omega), show H.length + t - H.length = t by omega, List.getElem?_append_right (by omega), htl, Nat.sub_self]; rfl
    have haty : (H ++ (Y.take t ++ (x :: (Y.drop t ++ T))))[hh + t + 1]? = some Y[t] := by
      rw [← hhd, List.getElem?_append_right (by omega), show H.length + t + 1 - H.length = t + 1 by omega, List.getElem?_append_right (by omega), htl, show t + 1 - t = 1 by omega, List.drop_eq_getElem_cons htY]; rfl
    rw [hhd] at hset
    generalize Y[t] = y at hset haty
    generalize H ++ (Y.take t ++ (x :: (Y.drop t ++ T))) = E at hset hatx haty hEl ⊢
    repeat'(first|(apply CW.reg_held (fun _ => True))|refine kv' ?_|apply jJ|refine jE' ?_|refine jp' ?_|(apply jc;kernel_rfl)|refine kg' ?_|refine kG' ?_|refine kB' fun _=>?_|refine kA' fun _=>?_|refine kK' fun _=>?_|refine kU' ?_|(apply subX;(iterate 2 exact rfl);(iterate 2(first|omega|(dsimp only;omega)));exact rfl)|((first|refine kR' ?_ ?_|refine kQ' ?_ ?_);all_goals(intro hc;try simp only[hcs]at hc;try(exfalso;first|contradiction|omega))))
    apply DW.quiet [0, 1, 2, 3, 4, 5, 6, 7, 10, 11]
    · decide +kernel
    · exact fun _ _ => trivial
    repeat'(first|refine yv' ?_|((apply QL.ev; (· exact rfl); (· first | (apply Ev.add; (· exact rfl); (· exact rfl); (· omega); (· omega)) | (apply Ev.sub; (· exact rfl); (· exact rfl); (· omega); (· omega))); (· exact rfl)))|refine uv' ?_|refine un' ?_|(refine us' ?_ ?_;all_goals(intro hc;try simp only[hcs]at hc;try(exfalso;first|contradiction|omega)))|apply QL.nil)
    apply DW.gate 15 [15, 16, 17] [8, 9, 12, 13, 14] (St w F [pN (some ⟨ba, oa, none⟩) N c E])
    · decide +kernel
    · exact fun _ _ => trivial
    · decide +kernel
    apply DW.quiet [8, 9, 12, 13, 14]
    · decide +kernel
    · exact fun _ h => h
    repeat'(first|refine yv' ?_|((apply QL.ev; (· exact rfl); (· first | (apply Ev.indexAddr; (· exact rfl); (· exact rfl); (· omega); (· omega)) | (apply Ev.load_agg_at (cs := Plc.cells x); (· exact rfl); (· exact rfl); (· intro w' hw'; refine pcs_cell (hw'.rd_of_own memZ) hatx ?_; (· omega))) | (apply Ev.load_agg_at (cs := Plc.cells y); (· exact rfl); (· exact rfl); (· intro w' hw'; refine pcs_cell (hw'.rd_of_own memZ) haty ?_; (· omega))) | (apply Ev.sub; (· exact rfl); (· exact rfl); (· omega); (· omega)) | (apply Ev.add; (· exact rfl); (· exact rfl); (· omega); (· omega))); (· exact rfl)))|refine uv' ?_|refine un' ?_|(refine us' ?_ ?_;all_goals(intro hc;try simp only[hcs]at hc;try(exfalso;first|contradiction|omega)))|apply QL.nil)
    apply DW.done
    · decide +kernel
    apply At.gate
    apply DW.loud 15
    · exact rfl
    · decide +kernel
    refine LR.store_obj rfl rfl (Sel.head _ _ _) rfl (put_plc (l := E) y (k := hh + t) (by omega) (by omega)) (osl.dep _ _ _ _ _) ?_
    apply kM
    apply At.stage_any
    apply DW.quiet [16]
    · decide +kernel
    · exact fun _ _ => trivial
    repeat'(first|refine yv' ?_|((apply QL.ev; (· exact rfl); (· apply Ev.indexAddr; (· exact rfl); (· exact rfl); (· omega); (· omega)); (· exact rfl)))|refine uv' ?_|refine un' ?_|(refine us' ?_ ?_;all_goals(intro hc;try simp only[hcs]at hc;try(exfalso;first|contradiction|omega)))|apply QL.nil)
    apply DW.loud 17
    · exact rfl
    · decide +kernel
    refine LR.store_obj rfl rfl (Sel.head _ _ _) rfl (put_plc (l := (E).set (hh + t) y) x (k := hh + t + 1) (by rw [List.length_set]; omega) (by omega)) (osl.dep _ _ _ _ _) ?_
    apply kM
    apply At.stage_any
    apply DW.done
    · decide +kernel
    rw [hset]
    repeat'(first|refine kv' ?_|apply jJ|refine jE' ?_|refine jp' ?_|(apply jc;kernel_rfl)|refine kg' ?_|refine kG' ?_|refine kB' fun _=>?_|refine kA' fun _=>?_|refine kK' fun _=>?_|refine kU' ?_|(apply addX;(iterate 2 exact rfl);(iterate 2(first|omega|(dsimp only;omega)));exact rfl)|((first|refine kR' ?_ ?_|refine kQ' ?_ ?_);all_goals(intro hc;try simp only[hcs]at hc;try(exfalso;first|contradiction|omega))))
    refine At.again (t + 1) (by omega) ?_ ⟨?_, trivial⟩ (fun w' hw' => hw') (by omega)
    · (repeat (first | exact Out.refl _ _ | exact Out.mix | (apply Out.upd; (· exact rfl)) | (apply Out.updL; (· exact rfl)) | (apply Out.mixs; (· exact rfl))))
    · exact congrArg (Value.int .i64) (by omega)
  have hte : t = j := by omega
  subst hte
  repeat'(first|refine kv' ?_|apply jJ|refine jE' ?_|refine jp' ?_|(apply jc;kernel_rfl)|refine kg' ?_|refine kG' ?_|refine kB' fun _=>?_|refine kA' fun _=>?_|refine kK' fun _=>?_|refine kU' ?_|(apply subX;(iterate 2 exact rfl);(iterate 2(first|omega|(dsimp only;omega)));exact rfl)|((first|refine kR' ?_ ?_|refine kQ' ?_ ?_);all_goals(intro hc;try simp only[hcs]at hc;try(exfalso;first|contradiction|omega))))
  apply ret0; (· exact rfl); intro w' hS
  subst hF
  exact ⟨rfl, hS.step rfl⟩
theorem isP_last {y : Plc} {X : List Plc} (hX : SorP X) {u : Nat} (h1 : ∀ x ∈ X.take u, x.ring ≤ y.ring) (h2 : ∀ x ∈ X.drop u, y.ring < x.ring) : isP (X ++ [y]) = X.take u ++ y :: X.drop u := by
  have hs := List.pairwise_append.1 (show SorP (X.take u ++ X.drop u) by rw [List.take_append_drop]; exact hX)
  have h := isP_split (A := X.take u) (B := X.drop u) (C := [y]) (D := []) (by rw [List.take_append_drop]; exact hX) (List.pairwise_singleton _ _) (fun z hz x hx => by rw [List.mem_singleton] at hz; subst hz; exact h2 x hx) (fun _ _ z hz => by cases hz)
  have e1 : isP (X.take u ++ [y]) = X.take u ++ [y] := isP_self (List.pairwise_append.2 ⟨hs.1, List.pairwise_singleton _ _, fun x hx z hz => by rw [List.mem_singleton] at hz; subst hz; exact h1 x hx⟩)
  rw [List.take_append_drop, List.append_nil, List.append_nil, isP_self hs.2.1, e1, List.append_assoc] at h
  exact h
theorem down_set (H X T : List Plc) (y : Plc) {t : Nat} (h : t < X.length) : ((H ++ (X.take (t + 1) ++ (y :: (X.drop (t + 1) ++ T)))).set (H.length + t + 1) X[t]).set (H.length + t) y = H ++ (X.take t ++ (y :: (X.drop t ++ T))) := by
  rw [List.set_append_right _ _ (by omega), show H.length + t + 1 - H.length = t + 1 by omega, List.set_append_right _ _ (by omega), show H.length + t - H.length = t by omega]
  congr 1
  have hl : (X.take (t + 1)).length = t + 1 := by rw [List.length_take]; omega
  have hl2 : (X.take t).length = t := by rw [List.length_take]; omega
  rw [List.set_append_right _ _ (by omega), hl, Nat.sub_self, List.set_append_left _ _ (by omega), show X.drop t = X[t] :: X.drop (t + 1) from List.drop_eq_getElem_cons h, List.take_add_one, List.getElem?_eq_getElem h, Option.toList_some, List.set_append_right _ _ (by omega), hl2, Nat.sub_self, List.append_assoc]
  rfl
set_option maxHeartbeats 4000000 in
theorem m128b (ad : Option Addr) (c : Nat) (H X T : List Plc) (y : Plc) (N : Nat) (w : World) (hN : (H ++ (X ++ ([y] ++ T))).length = N) (hX : SorP X) (hX2 : 2 ≤ X.length) (h : (pN ad N c (H ++ (X ++ ([y] ++ T)))).holds w) (hn : N ≤ 140737488355328) :
    CallsTo Try.prog 128 [.slice ad N c, .int .i64 H.length, .int .i64 ((H.length + X.length : Nat) : Int), .int .i64 ((H.length + X.length + 1 : Nat) : Int), .func (.func 85) #[] #[]] w fun v w' => v = .tuple #[] ∧ Step (pN ad N c (H ++ (X ++ ([y] ++ T)))) (pN ad N c (H ++ (isP (X ++ [y]) ++ T))) w w' := by
  have hS0 : St w (pN ad N c (H ++ (X ++ ([y] ++ T)))).foot [pN ad N c (H ++ (X ++ ([y] ++ T)))] w := St.one h (fun k hk => (World.ownsRow.lt h k hk).2) (osl.dep _ _ _ _ _)
  generalize hF : (pN ad N c (H ++ (X ++ ([y] ++ T)))).foot = F at *
  have hlen : H.length + (X.length + (1 + T.length)) = N := by rw [← hN]; simp; omega
  refine go_in (n := 220) hS0 Try.func128 rfl rfl ?_
  obtain ⟨hh, hhd⟩ : ∃ hh, H.length = hh := ⟨_, rfl⟩
  rw [hhd] at hlen ⊢
  refine CW_fact (φ := ∃ ba oa, ad = some ⟨ba, oa, none⟩) (fun w1 hw1 => (ownsRow_rd (hw1.holds (pN ad N c (H ++ (X ++ ([y] ++ T)))) memZ)).form (fun e => by have h1 := congrArg List.length e; rw [pcs_length, hN, List.length_nil] at h1; omega)) ?_
  rintro ⟨ba, oa, rfl⟩
  repeat'(first|refine kv' ?_|apply jJ|refine jE' ?_|refine jp' ?_|(apply jc;kernel_rfl)|refine kg' ?_|refine kG' ?_|refine kB' fun _=>?_|refine kA' fun _=>?_|refine kK' fun _=>?_|refine kU' ?_|(apply subX;(iterate 2 exact rfl);(iterate 2(first|omega|(dsimp only;omega)));exact rfl)|((first|refine kR' ?_ ?_|refine kQ' ?_ ?_);all_goals(intro hc;try simp only[hcs]at hc;try(exfalso;first|contradiction|omega))))
  apply CW.loop [14, 15, 16, 83, 84, 85, 86, 87, 88, 89, 90, 91, 92, 93, 94, 95, 96, 97, 98, 99, 100, 101, 102, 103, 104, 105, 106] (fun s : BsS => s.i ≤ s.j ∧ s.j ≤ X.length ∧ (∀ (k : Nat) (hk : k < X.length), s.i = k + 1 → (X[k]).ring < y.ring + 1) ∧ (∀ hk : s.j < X.length, y.ring + 1 ≤ (X[s.j]).ring))
    (fun s => [(14, .int .i64 ((hh + s.i : Nat) : Int)), (15, .int .i64 ((hh + s.j : Nat) : Int))]) (fun _ => St w F [pN (some ⟨ba, oa, none⟩) N c (H ++ (X ++ ([y] ++ T)))]) (fun s => s.j - s.i)
  · exact fun w' hw' => ⟨⟨0, X.length⟩, ⟨Nat.zero_le _, Nat.le_refl _, (fun k hk e => by simp at e), fun hk => absurd hk (Nat.lt_irrefl _)⟩, ⟨rfl, rfl, trivial⟩, hw'⟩
  rintro ⟨i, j⟩ g ⟨hij, hjX, hlo, hhi⟩
  simp only at hij hjX hlo hhi ⊢
  by_cases hlt : i < j
  · obtain ⟨hm, hhm⟩ : ∃ hm, (hh + i + (hh + j)) / 2 = hm := ⟨_, rfl⟩
    have hhe := half_of (hh + i) (hh + j)
    rw [hhm] at hhe
    obtain ⟨u, hu⟩ : ∃ u, hm = hh + u := ⟨hm - hh, by omega⟩
    have huX : u < X.length := by omega
    obtain ⟨z, hz⟩ : ∃ z, X[u] = z := ⟨_, rfl⟩
    have hatz : (H ++ (X ++ ([y] ++ T)))[hm]? = some z := by
      have := at_mid (H := H) (X := X) (T := [y] ++ T) huX
      rw [hhd] at this
      rw [hu, ← hz]
      exact this
    have haty : (H ++ (X ++ ([y] ++ T)))[hh + X.length]? = some y := by
      have := at_mid (H := H ++ X) (X := [y]) (T := T) (i := 0) (by simp)
      rw [List.append_assoc, List.length_append, hhd] at this
      exact this
    repeat'(first|(apply LR.ev; (· apply Ev.convU; (· exact rfl); (· omega); (· omega)); (· exact rfl))|(apply LR.ev; (· apply Ev.half (h := hm); (· exact rfl); (· exact rfl); (· decide); (· exact hhe)); (· exact rfl))|(apply LR.ev; (· apply Ev.convI; (· exact rfl); (· omega); (· omega)); (· exact rfl))|(apply CW.reg_heldC)|refine kv' ?_|apply jJ|refine jE' ?_|refine jp' ?_|(apply jc;kernel_rfl)|refine kg' ?_|refine kG' ?_|refine kB' fun _=>?_|refine kA' fun _=>?_|refine kK' fun _=>?_|refine kU' ?_|(apply addX;(iterate 2 exact rfl);(iterate 2(first|omega|(dsimp only;omega)));exact rfl)|((first|refine kR' ?_ ?_|refine kQ' ?_ ?_);all_goals(intro hc;try simp only[hcs]at hc;try(exfalso;first|contradiction|omega))))
    all_goals (
      apply DW.quiet [0, 1, 2, 3, 4, 5, 6, 7, 8]
      · decide +kernel
      · first | exact fun _ h => h | exact fun _ h => St.sub h subZ
      repeat'(first|(apply QL.ev; (· exact rfl); (· apply Ev.indexAddr; (· exact rfl); (· exact rfl); (· omega); (· omega)); (· exact rfl))|(apply QL.ev; (· exact rfl); (· apply Ev.load_agg_at (cs := Plc.cells y); (· exact rfl); (· exact rfl); (· intro w' hw'; refine pcs_cell (hw'.rd_of_own memZ) haty ?_; (· omega))); (· exact rfl))|(apply QL.ev; (· exact rfl); (· apply Ev.load_agg_at (cs := Plc.cells z); (· exact rfl); (· exact rfl); (· intro w' hw'; refine pcs_cell (hw'.rd_of_own memZ) hatz ?_; (· omega))); (· exact rfl))|refine yv' ?_|refine uv' ?_|refine un' ?_|(refine us' ?_ ?_;all_goals(intro hc;try simp only[hcs]at hc;try(exfalso;first|contradiction|omega)))|apply QL.nil)
      all_goals (show DW _ _ _ _ _ _ _ _))
    all_goals (
      apply DW.loud 9
      · exact rfl
      · decide +kernel
      repeat'(first|refine kg' ?_|refine kG' ?_|apply kM|refine kv' ?_|refine kK' fun _=>?_|refine kU' ?_|refine kB' fun _=>?_|refine kA' fun _=>?_|(apply LR.qcall_val (g := 85) (cap := []) (v := .int .i64 (cmpM y.ring z.ring)); (· exact rfl); (· exact rfl); (· intro w1 h1; exact CallsTo.q (m85 y z w1) h1)))
      all_goals (refine At.stage_same (fun _ h => St.sub h subZ) ?_))
    all_goals (
      apply DW.quiet [10, 11]
      · decide +kernel
      · first | exact fun _ h => h | exact fun _ h => St.sub h subZ
      repeat'(first|(apply QL.ev; (· exact rfl); (· apply Ev.indexAddr; (· exact rfl); (· exact rfl); (· omega); (· omega)); (· exact rfl))|(apply QL.ev; (· exact rfl); (· apply Ev.load_agg_at (cs := Plc.cells y); (· exact rfl); (· exact rfl); (· intro w' hw'; refine pcs_cell (hw'.rd_of_own memZ) haty ?_; (· omega))); (· exact rfl))|(apply QL.ev; (· exact rfl); (· apply Ev.load_agg_at (cs := Plc.cells z); (· exact rfl); (· exact rfl); (· intro w' hw'; refine pcs_cell (hw'.rd_of_own memZ) hatz ?_; (· omega))); (· exact rfl))|refine yv' ?_|refine uv' ?_|refine un' ?_|(refine us' ?_ ?_;all_goals(intro hc;try simp only[hcs]at hc;try(exfalso;first|contradiction|omega)))|apply QL.nil)
      all_goals (show DW _ _ _ _ _ _ _ _))
    all_goals (first | (apply DW.done_thn; (· decide +kernel)) | (apply DW.done; (· decide +kernel)))
    rw [show decide (cmpM y.ring z.ring < 0) = decide (y.ring < z.ring) by
      rw [decide_eq_decide]; unfold cmpM; split <;> (try split) <;> omega]
    by_cases hyx : y.ring < z.ring
    · rw [decide_eq_true hyx]
      repeat'(first|refine kv' ?_|apply jJ|refine jE' ?_|refine jp' ?_|(apply jc;kernel_rfl)|refine kg' ?_|refine kG' ?_|refine kB' fun _=>?_|refine kA' fun _=>?_|refine kK' fun _=>?_|refine kU' ?_|((first|refine kR' ?_ ?_|refine kQ' ?_ ?_);all_goals(intro hc;try simp only[hcs]at hc;try(exfalso;first|contradiction|omega))))
      refine At.again (⟨i, u⟩ : BsS) ⟨by simp only; omega, by simp only; omega, hlo, fun hk => ?_⟩ ?_ ⟨rfl, ?_, trivial⟩ (fun w' hw' => hw') (by simp only; omega)
      · simp only
        rw [hz]; omega
      · (repeat (first | exact Out.refl _ _ | exact Out.mix | (apply Out.upd; (· exact rfl)) | (apply Out.updL; (· exact rfl)) | (apply Out.mixs; (· exact rfl))))
      · exact congrArg (Value.int .i64) (by simp only; omega)
    · rw [decide_eq_false hyx]
      repeat'(first|refine kv' ?_|apply jJ|refine jE' ?_|refine jp' ?_|(apply jc;kernel_rfl)|refine kg' ?_|refine kG' ?_|refine kB' fun _=>?_|refine kA' fun _=>?_|refine kK' fun _=>?_|refine kU' ?_|(apply addX;(iterate 2 exact rfl);(iterate 2(first|omega|(dsimp only;omega)));exact rfl)|((first|refine kR' ?_ ?_|refine kQ' ?_ ?_);all_goals(intro hc;try simp only[hcs]at hc;try(exfalso;first|contradiction|omega))))
      refine At.again (⟨u + 1, j⟩ : BsS) ⟨by simp only; omega, hjX, fun k hk e => ?_, hhi⟩ ?_ ⟨?_, rfl, trivial⟩ (fun w' hw' => hw') (by simp only; omega)
      · have e : k = u := by simp only at e; omega
        subst e; rw [hz]; omega
      · (repeat (first | exact Out.refl _ _ | exact Out.mix | (apply Out.upd; (· exact rfl)) | (apply Out.updL; (· exact rfl)) | (apply Out.mixs; (· exact rfl))))
      · exact congrArg (Value.int .i64) (by simp only; omega)
  have hje : j = i := by omega
  subst hje
  have hres : H ++ (isP (X ++ [y]) ++ T) = H ++ (X.take j ++ (y :: (X.drop j ++ T))) := by
    rw [isP_last hX (fun x hx => by have := take_low hX hjX (fun k hk e => hlo k hk e) x hx; omega) (fun x hx => by have := drop_high hX hhi x hx; omega), List.append_assoc]; rfl
  rw [hres]
  repeat'(first|refine kv' ?_|apply jJ|refine jE' ?_|refine jp' ?_|(apply jc;kernel_rfl)|refine kg' ?_|refine kG' ?_|refine kB' fun _=>?_|refine kA' fun _=>?_|refine kK' fun _=>?_|refine kU' ?_|(apply subX;(iterate 2 exact rfl);(iterate 2(first|omega|(dsimp only;omega)));exact rfl)|((first|refine kR' ?_ ?_|refine kQ' ?_ ?_);all_goals(intro hc;try simp only[hcs]at hc;try(exfalso;first|contradiction|omega))))
  apply CW.loop [17, 108, 109, 110, 111, 112, 113, 114, 115, 116, 117, 118, 119, 120, 121, 122, 123, 124, 125, 126, 127, 128] (fun t : Nat => j ≤ t ∧ t ≤ X.length) (fun t => [(17, .int .i64 ((hh + t : Nat) : Int))]) (fun t => St w F [pN (some ⟨ba, oa, none⟩) N c (H ++ (X.take t ++ (y :: (X.drop t ++ T))))]) (fun t => t - j)
  · refine fun w' hw' => ⟨X.length, ⟨hjX, Nat.le_refl _⟩, ⟨rfl, trivial⟩, ?_⟩
    rw [List.take_length, List.drop_length]; exact hw'
  intro t g2 ⟨htj, htX⟩
  by_cases hlt2 : j < t
  · obtain ⟨t, rfl⟩ : ∃ t', t = t' + 1 := ⟨t - 1, by omega⟩
    have htY : t < X.length := by omega
    have hset := down_set H X T y htY
    have htl : (X.take (t + 1)).length = t + 1 := by rw [List.length_take]; omega
    have htl2 : (X.take t).length = t := by rw [List.length_take]; omega
    have hEl : (H ++ (X.take (t + 1) ++ (y :: (X.drop (t + 1) ++ T)))).length = N := by simp only [List.length_append, List.length_cons, List.length_drop, htl]; omega
    have haty : (H ++ (X.take (t + 1) ++ (y :: (X.drop (t + 1) ++ T))))[hh + t + 1]? = some y := by
      rw [← hhd, List.getElem?_append_right (by omega), show H.length + t + 1 - H.length = t + 1 by omega, List.getElem?_append_right (by omega), htl, Nat.sub_self]; rfl
    have hatz : (H ++ (X.take (t + 1) ++ (y :: (X.drop (t + 1) ++ T))))[hh + t]? = some X[t] := by
      rw [← hhd, List.getElem?_append_right (by omega), show H.length + t - H.length = t by omega, List.getElem?_append_left (by omega), List.take_add_one, List.getElem?_eq_getElem htY, List.getElem?_append_right (by omega), htl2, Nat.sub_self]; rfl
    rw [hhd] at hset
    generalize X[t] = z at hset hatz
    generalize H ++ (X.take (t + 1) ++ (y :: (X.drop (t + 1) ++ T))) = E at hset haty hatz hEl ⊢
    repeat'(first|(apply CW.reg_held (fun _ => True))|refine kv' ?_|apply jJ|refine jE' ?_|refine jp' ?_|(apply jc;kernel_rfl)|refine kg' ?_|refine kG' ?_|refine kB' fun _=>?_|refine kA' fun _=>?_|refine kK' fun _=>?_|refine kU' ?_|(apply subX;(iterate 2 exact rfl);(iterate 2(first|omega|(dsimp only;omega)));exact rfl)|((first|refine kR' ?_ ?_|refine kQ' ?_ ?_);all_goals(intro hc;try simp only[hcs]at hc;try(exfalso;first|contradiction|omega))))
    apply DW.quiet [0, 1, 2, 3, 4, 5, 6, 7, 10, 11]
    · decide +kernel
    · exact fun _ _ => trivial
    repeat'(first|refine yv' ?_|((apply QL.ev; (· exact rfl); (· first | (apply Ev.add; (· exact rfl); (· exact rfl); (· omega); (· omega)) | (apply Ev.sub; (· exact rfl); (· exact rfl); (· omega); (· omega))); (· exact rfl)))|refine uv' ?_|refine un' ?_|(refine us' ?_ ?_;all_goals(intro hc;try simp only[hcs]at hc;try(exfalso;first|contradiction|omega)))|apply QL.nil)
    apply DW.gate 15 [15, 16, 17] [8, 9, 12, 13, 14] (St w F [pN (some ⟨ba, oa, none⟩) N c E])
    · decide +kernel
    · exact fun _ _ => trivial
    · decide +kernel
    apply DW.quiet [8, 9, 12, 13, 14]
    · decide +kernel
    · exact fun _ h => h
    repeat'(first|refine yv' ?_|((apply QL.ev; (· exact rfl); (· first | (apply Ev.indexAddr; (· exact rfl); (· exact rfl); (· omega); (· omega)) | (apply Ev.load_agg_at (cs := Plc.cells y); (· exact rfl); (· exact rfl); (· intro w' hw'; refine pcs_cell (hw'.rd_of_own memZ) haty ?_; (· omega))) | (apply Ev.load_agg_at (cs := Plc.cells z); (· exact rfl); (· exact rfl); (· intro w' hw'; refine pcs_cell (hw'.rd_of_own memZ) hatz ?_; (· omega))) | (apply Ev.sub; (· exact rfl); (· exact rfl); (· omega); (· omega)) | (apply Ev.add; (· exact rfl); (· exact rfl); (· omega); (· omega))); (· exact rfl)))|refine uv' ?_|refine un' ?_|(refine us' ?_ ?_;all_goals(intro hc;try simp only[hcs]at hc;try(exfalso;first|contradiction|omega)))|apply QL.nil)
    apply DW.done
    · decide +kernel
    apply At.gate
    apply DW.loud 15
    · exact rfl
    · decide +kernel
    refine LR.store_obj rfl rfl (Sel.head _ _ _) rfl (put_plc (l := E) z (k := hh + t + 1) (by omega) (by omega)) (osl.dep _ _ _ _ _) ?_
    apply kM
    apply At.stage_any
    apply DW.quiet [16]
    · decide +kernel
    · exact fun _ _ => trivial
    repeat'(first|refine yv' ?_|((apply QL.ev; (· exact rfl); (· apply Ev.indexAddr; (· exact rfl); (· exact rfl); (· omega); (· omega)); (· exact rfl)))|refine uv' ?_|refine un' ?_|(refine us' ?_ ?_;all_goals(intro hc;try simp only[hcs]at hc;try(exfalso;first|contradiction|omega)))|apply QL.nil)
    apply DW.loud 17
    · exact rfl
    · decide +kernel
    refine LR.store_obj rfl rfl (Sel.head _ _ _) rfl (put_plc (l := (E).set (hh + t + 1) z) y (k := hh + t) (by rw [List.length_set]; omega) (by omega)) (osl.dep _ _ _ _ _) ?_
    apply kM
    apply At.stage_any
    apply DW.done
    · decide +kernel
    rw [hset]
    repeat'(first|refine kv' ?_|apply jJ|refine jE' ?_|refine jp' ?_|(apply jc;kernel_rfl)|refine kg' ?_|refine kG' ?_|refine kB' fun _=>?_|refine kA' fun _=>?_|refine kK' fun _=>?_|refine kU' ?_|(apply subX;(iterate 2 exact rfl);(iterate 2(first|omega|(dsimp only;omega)));exact rfl)|((first|refine kR' ?_ ?_|refine kQ' ?_ ?_);all_goals(intro hc;try simp only[hcs]at hc;try(exfalso;first|contradiction|omega))))
    refine At.again t ⟨by omega, by omega⟩ ?_ ⟨?_, trivial⟩ (fun w' hw' => hw') (by omega)
    · (repeat (first | exact Out.refl _ _ | exact Out.mix | (apply Out.upd; (· exact rfl)) | (apply Out.updL; (· exact rfl)) | (apply Out.mixs; (· exact rfl))))
    · exact congrArg (Value.int .i64) (by omega)
  have hte : t = j := by omega
  subst hte
  repeat'(first|refine kv' ?_|apply jJ|refine jE' ?_|refine jp' ?_|(apply jc;kernel_rfl)|refine kg' ?_|refine kG' ?_|refine kB' fun _=>?_|refine kA' fun _=>?_|refine kK' fun _=>?_|refine kU' ?_|(apply subX;(iterate 2 exact rfl);(iterate 2(first|omega|(dsimp only;omega)));exact rfl)|((first|refine kR' ?_ ?_|refine kQ' ?_ ?_);all_goals(intro hc;try simp only[hcs]at hc;try(exfalso;first|contradiction|omega))))
  apply ret0; (· exact rfl); intro w' hS
  subst hF
  exact ⟨rfl, hS.step rfl⟩
end Go.Proofs.Ytgblmkpfkcibiaa

namespace Go.Proofs.Ytgblmkpfkcibiaa
open Go.Hb
attribute [local irreducible] LR CW At Ev thn blk finK noG again CallsTo DW QL dnext TW DP gpost
set_option maxRecDepth 100000

set_option maxHeartbeats 8000000 in
theorem m128c (ad : Option Addr) (c : Nat) (H X Y T : List Plc) (N : Nat) (w : World) (hN : (H ++ (X ++ (Y ++ T))).length = N) (hX : SorP X) (hY : SorP Y) (hX2 : 2 ≤ X.length) (hY2 : 2 ≤ Y.length) (h : (pN ad N c (H ++ (X ++ (Y ++ T)))).holds w) (hn : N ≤ 140737488355328)
    (ih : ∀ (H X' Y' T : List Plc) (w : World), X'.length + Y'.length < X.length + Y.length → X' ≠ [] → Y' ≠ [] → SorP X' → SorP Y' → (H ++ (X' ++ (Y' ++ T))).length = N → (pN ad N c (H ++ (X' ++ (Y' ++ T)))).holds w →
      CallsTo Try.prog 128 [.slice ad N c, .int .i64 H.length, .int .i64 ((H.length + X'.length : Nat) : Int), .int .i64 ((H.length + X'.length + Y'.length : Nat) : Int), .func (.func 85) #[] #[]] w fun v w' => v = .tuple #[] ∧ Step (pN ad N c (H ++ (X' ++ (Y' ++ T)))) (pN ad N c (H ++ (isP (X' ++ Y') ++ T))) w w') :
    CallsTo Try.prog 128 [.slice ad N c, .int .i64 H.length, .int .i64 ((H.length + X.length : Nat) : Int), .int .i64 ((H.length + X.length + Y.length : Nat) : Int), .func (.func 85) #[] #[]] w fun v w' => v = .tuple #[] ∧ Step (pN ad N c (H ++ (X ++ (Y ++ T)))) (pN ad N c (H ++ (isP (X ++ Y) ++ T))) w w' := by
  have hS0 : St w (pN ad N c (H ++ (X ++ (Y ++ T)))).foot [pN ad N c (H ++ (X ++ (Y ++ T)))] w := St.one h (fun k hk => (World.ownsRow.lt h k hk).2) (osl.dep _ _ _ _ _)
  generalize hF : (pN ad N c (H ++ (X ++ (Y ++ T)))).foot = F at *
  have hlen : H.length + (X.length + (Y.length + T.length)) = N := by rw [← hN]; simp
  refine go_in (n := 220) hS0 Try.func128 rfl rfl ?_
  obtain ⟨hh, hhd⟩ : ∃ hh, H.length = hh := ⟨_, rfl⟩
  rw [hhd] at hlen ⊢
  refine CW_fact (φ := ∃ ba oa, ad = some ⟨ba, oa, none⟩) (fun w1 hw1 => (ownsRow_rd (hw1.holds (pN ad N c (H ++ (X ++ (Y ++ T)))) memZ)).form (fun e => by have h1 := congrArg List.length e; rw [pcs_length, hN, List.length_nil] at h1; omega)) ?_
  rintro ⟨ba, oa, rfl⟩
  obtain ⟨q, hq⟩ : ∃ q, (X.length + Y.length) / 2 = q := ⟨_, rfl⟩
  obtain ⟨hm, hhm⟩ : ∃ hm, (hh + (hh + X.length + Y.length)) / 2 = hm := ⟨_, rfl⟩
  have hhe := half_of hh (hh + X.length + Y.length)
  rw [hhm] at hhe
  have hmq : hm = hh + q := by omega
  subst hmq
  obtain ⟨lo, hi, hlohi⟩ : ∃ lo hi : Nat, (q < X.length ∧ lo = q - Y.length ∧ hi = q ∧ Y.length ≤ q) ∨ (X.length ≤ q ∧ lo = 0 ∧ hi = X.length ∧ q ≤ Y.length) := by
    by_cases hx : q < X.length
    · exact ⟨q - Y.length, q, .inl ⟨hx, rfl, rfl, by omega⟩⟩
    · exact ⟨0, X.length, .inr ⟨by omega, rfl, rfl, by omega⟩⟩
  repeat'(first|(apply LR.ev; (· apply Ev.convU; (· exact rfl); (· omega); (· omega)); (· exact rfl))|(apply LR.ev; (· apply Ev.half (h := hh + q); (· exact rfl); (· exact rfl); (· decide); (· exact hhe)); (· exact rfl))|(apply LR.ev; (· apply Ev.convI; (· exact rfl); (· omega); (· omega)); (· exact rfl))|refine kv' ?_|apply jJ|refine jE' ?_|refine jp' ?_|(apply jc;kernel_rfl)|refine kg' ?_|refine kG' ?_|refine kB' fun _=>?_|refine kA' fun _=>?_|refine kK' fun _=>?_|refine kU' ?_|(apply subX;(iterate 2 exact rfl);(iterate 2(first|omega|(dsimp only;omega)));exact rfl)|(apply addX;(iterate 2 exact rfl);(iterate 2(first|omega|(dsimp only;omega)));exact rfl)|((first|refine kR' ?_ ?_|refine kQ' ?_ ?_);all_goals(intro hc;try simp only[hcs]at hc;try(exfalso;first|contradiction|omega))))
  all_goals (
    apply CW.loop [20, 21, 23, 149, 150, 151, 152, 153, 154, 155, 156, 157, 158, 159, 160, 161, 162, 163, 164, 165, 166, 167, 168, 169, 170, 171, 172, 173, 174] (fun s : BsS => lo ≤ s.i ∧ s.i ≤ s.j ∧ s.j ≤ hi ∧ (lo < s.i → (X.getD (s.i - 1) zP).ring ≤ (Y.getD (q - s.i) zP).ring) ∧ (s.j < hi → (Y.getD (q - 1 - s.j) zP).ring < (X.getD s.j zP).ring))
      (fun s => [(20, .int .i64 ((hh + s.i : Nat) : Int)), (21, .int .i64 ((hh + s.j : Nat) : Int))]) (fun _ => St w F [pN (some ⟨ba, oa, none⟩) N c (H ++ (X ++ (Y ++ T)))]) (fun s => s.j - s.i)
    · exact fun w' hw' => ⟨⟨lo, hi⟩, ⟨Nat.le_refl _, by simp only; omega, Nat.le_refl _, fun hk => absurd hk (Nat.lt_irrefl _), fun hk => absurd hk (Nat.lt_irrefl _)⟩, ⟨congrArg (Value.int .i64) (by simp only; omega), congrArg (Value.int .i64) (by simp only; omega), trivial⟩, hw'⟩
    rintro ⟨i, j⟩ g ⟨hli, hij, hjh, hI, hJ⟩
    simp only at hli hij hjh hI hJ ⊢
    by_cases hlt : i < j
    · obtain ⟨hm2, hhm2⟩ : ∃ hm2, (hh + i + (hh + j)) / 2 = hm2 := ⟨_, rfl⟩
      have hhe2 := half_of (hh + i) (hh + j)
      rw [hhm2] at hhe2
      obtain ⟨u, hu⟩ : ∃ u, hm2 = hh + u := ⟨hm2 - hh, by omega⟩
      subst hu
      have huX : u < X.length := by omega
      have huY : q - 1 - u < Y.length := by omega
      obtain ⟨x, hx⟩ : ∃ x, X.getD u zP = x := ⟨_, rfl⟩
      obtain ⟨y, hy⟩ : ∃ y, Y.getD (q - 1 - u) zP = y := ⟨_, rfl⟩
      have hatx : (H ++ (X ++ (Y ++ T)))[hh + u]? = some x := by
        have := at_mid (H := H) (X := X) (T := Y ++ T) huX
        rw [hhd] at this
        rw [← hx, getD_plc _ huX]
        exact this
      have haty : (H ++ (X ++ (Y ++ T)))[hh + X.length + (q - 1 - u)]? = some y := by
        have := at_mid (H := H ++ X) (X := Y) (T := T) huY
        rw [List.append_assoc, List.length_append, hhd] at this
        rw [← hy, getD_plc _ huY]
        exact this
      repeat'(first|(apply LR.ev; (· apply Ev.convU; (· exact rfl); (· omega); (· omega)); (· exact rfl))|(apply LR.ev; (· apply Ev.half (h := hh + u); (· exact rfl); (· exact rfl); (· decide); (· exact hhe2)); (· exact rfl))|(apply LR.ev; (· apply Ev.convI; (· exact rfl); (· omega); (· omega)); (· exact rfl))|(apply CW.reg_heldC)|refine kv' ?_|apply jJ|refine jE' ?_|refine jp' ?_|(apply jc;kernel_rfl)|refine kg' ?_|refine kG' ?_|refine kB' fun _=>?_|refine kA' fun _=>?_|refine kK' fun _=>?_|refine kU' ?_|(apply addX;(iterate 2 exact rfl);(iterate 2(first|omega|(dsimp only;omega)));exact rfl)|((first|refine kR' ?_ ?_|refine kQ' ?_ ?_);all_goals(intro hc;try simp only[hcs]at hc;try(exfalso;first|contradiction|omega))))
      all_goals (
        apply DW.quiet [0, 1, 2, 3, 4, 5, 6, 7, 8, 9, 10]
        · decide +kernel
        · first | exact fun _ h => h | exact fun _ h => St.sub h subZ
        repeat'(first|(apply QL.ev; (· exact rfl); (· apply Ev.sub; (· exact rfl); (· exact rfl); (· omega); (· omega)); (· exact rfl))|(apply QL.ev; (· exact rfl); (· apply Ev.indexAddr; (· exact rfl); (· exact rfl); (· omega); (· omega)); (· exact rfl))|(apply QL.ev; (· exact rfl); (· apply Ev.load_agg_at (cs := Plc.cells x); (· exact rfl); (· exact rfl); (· intro w' hw'; refine pcs_cell (hw'.rd_of_own memZ) hatx ?_; (· omega))); (· exact rfl))|(apply QL.ev; (· exact rfl); (· apply Ev.load_agg_at (cs := Plc.cells y); (· exact rfl); (· exact rfl); (· intro w' hw'; refine pcs_cell (hw'.rd_of_own memZ) haty ?_; (· omega))); (· exact rfl))|refine yv' ?_|refine uv' ?_|refine un' ?_|(refine us' ?_ ?_;all_goals(intro hc;try simp only[hcs]at hc;try(exfalso;first|contradiction|omega)))|apply QL.nil)
        all_goals (show DW _ _ _ _ _ _ _ _))
      all_goals (
        apply DW.loud 11
        · exact rfl
        · decide +kernel
        repeat'(first|refine kg' ?_|refine kG' ?_|apply kM|refine kv' ?_|refine kK' fun _=>?_|refine kU' ?_|refine kB' fun _=>?_|refine kA' fun _=>?_|(apply LR.qcall_val (g := 85) (cap := []) (v := .int .i64 (cmpM y.ring x.ring)); (· exact rfl); (· exact rfl); (· intro w1 h1; exact CallsTo.q (m85 y x w1) h1)))
        all_goals (refine At.stage_same (fun _ h => St.sub h subZ) ?_))
      all_goals (
        apply DW.quiet [12, 13]
        · decide +kernel
        · first | exact fun _ h => h | exact fun _ h => St.sub h subZ
        repeat'(first|(apply QL.ev; (· exact rfl); (· apply Ev.sub; (· exact rfl); (· exact rfl); (· omega); (· omega)); (· exact rfl))|(apply QL.ev; (· exact rfl); (· apply Ev.indexAddr; (· exact rfl); (· exact rfl); (· omega); (· omega)); (· exact rfl))|(apply QL.ev; (· exact rfl); (· apply Ev.load_agg_at (cs := Plc.cells x); (· exact rfl); (· exact rfl); (· intro w' hw'; refine pcs_cell (hw'.rd_of_own memZ) hatx ?_; (· omega))); (· exact rfl))|(apply QL.ev; (· exact rfl); (· apply Ev.load_agg_at (cs := Plc.cells y); (· exact rfl); (· exact rfl); (· intro w' hw'; refine pcs_cell (hw'.rd_of_own memZ) haty ?_; (· omega))); (· exact rfl))|refine yv' ?_|refine uv' ?_|refine un' ?_|(refine us' ?_ ?_;all_goals(intro hc;try simp only[hcs]at hc;try(exfalso;first|contradiction|omega)))|apply QL.nil)
        all_goals (show DW _ _ _ _ _ _ _ _))
      all_goals (first | (apply DW.done_thn; (· decide +kernel)) | (apply DW.done; (· decide +kernel)))
      rw [show decide (cmpM y.ring x.ring < 0) = decide (y.ring < x.ring) by
        rw [decide_eq_decide]; unfold cmpM; split <;> (try split) <;> omega]
      by_cases hyx : y.ring < x.ring
      · rw [decide_eq_true hyx]
        repeat'(first|refine kv' ?_|apply jJ|refine jE' ?_|refine jp' ?_|(apply jc;kernel_rfl)|refine kg' ?_|refine kG' ?_|refine kB' fun _=>?_|refine kA' fun _=>?_|refine kK' fun _=>?_|refine kU' ?_|((first|refine kR' ?_ ?_|refine kQ' ?_ ?_);all_goals(intro hc;try simp only[hcs]at hc;try(exfalso;first|contradiction|omega))))
        refine At.again (⟨i, u⟩ : BsS) ⟨hli, by simp only; omega, by simp only; omega, hI, fun hk => ?_⟩ ?_ ⟨rfl, rfl, trivial⟩ (fun w' hw' => hw') (by simp only; omega)
        · simp only
          rw [hx, hy]; exact hyx
        · (repeat (first | exact Out.refl _ _ | exact Out.mix | (apply Out.upd; (· exact rfl)) | (apply Out.updL; (· exact rfl)) | (apply Out.mixs; (· exact rfl))))
      · rw [decide_eq_false hyx]
        repeat'(first|refine kv' ?_|apply jJ|refine jE' ?_|refine jp' ?_|(apply jc;kernel_rfl)|refine kg' ?_|refine kG' ?_|refine kB' fun _=>?_|refine kA' fun _=>?_|refine kK' fun _=>?_|refine kU' ?_|(apply addX;(iterate 2 exact rfl);(iterate 2(first|omega|(dsimp only;omega)));exact rfl)|((first|refine kR' ?_ ?_|refine kQ' ?_ ?_);all_goals(intro hc;try simp only[hcs]at hc;try(exfalso;first|contradiction|omega))))
        refine At.again (⟨u + 1, j⟩ : BsS) ⟨by simp only; omega, by simp only; omega, hjh, fun hk => ?_, hJ⟩ ?_ ⟨?_, rfl, trivial⟩ (fun w' hw' => hw') (by simp only; omega)
        · simp only
          rw [Nat.add_sub_cancel, show q - (u + 1) = q - 1 - u by omega, hx, hy]; omega
        · (repeat (first | exact Out.refl _ _ | exact Out.mix | (apply Out.upd; (· exact rfl)) | (apply Out.updL; (· exact rfl)) | (apply Out.mixs; (· exact rfl))))
        · exact congrArg (Value.int .i64) (by simp only; omega)
    have hje : j = i := by omega
    subst hje
    have hqX : j ≤ X.length := by omega
    have hqj : j ≤ q := by omega
    have hqY : q - j ≤ Y.length := by omega
    obtain ⟨A, hA⟩ : ∃ A, A = X.take j := ⟨_, rfl⟩
    obtain ⟨B, hB⟩ : ∃ B, B = X.drop j := ⟨_, rfl⟩
    obtain ⟨C, hC⟩ : ∃ C, C = Y.take (q - j) := ⟨_, rfl⟩
    obtain ⟨D, hD⟩ : ∃ D, D = Y.drop (q - j) := ⟨_, rfl⟩
    have hAl : A.length = j := by rw [hA, List.length_take]; omega
    have hBl : B.length = X.length - j := by rw [hB, List.length_drop]
    have hCl : C.length = q - j := by rw [hC, List.length_take]; omega
    have hDl : D.length = Y.length - (q - j) := by rw [hD, List.length_drop]
    have hXe : X = A ++ B := by rw [hA, hB, List.take_append_drop]
    have hYe : Y = C ++ D := by rw [hC, hD, List.take_append_drop]
    have hsX := List.pairwise_append.1 (show SorP (A ++ B) by rw [← hXe]; exact hX)
    have hsY := List.pairwise_append.1 (show SorP (C ++ D) by rw [← hYe]; exact hY)
    have hCB : ∀ x ∈ C, ∀ y ∈ B, x.ring < y.ring := by
      intro x hx y hy
      have hjhi : j < hi ∨ j = hi := by omega
      have hCp : 0 < C.length := List.length_pos_iff.2 (fun e => by rw [e] at hx; cases hx)
      have hBp : 0 < B.length := List.length_pos_iff.2 (fun e => by rw [e] at hy; cases hy)
      have h1 := hJ (by omega)
      rw [getD_plc _ (by omega : q - 1 - j < Y.length), getD_plc _ (by omega : j < X.length)] at h1
      have h2 := take_low (u := q - j) (r := (X[j]'(by omega)).ring) hY (by omega) (fun k hk e => by obtain rfl : k = q - 1 - j := (by omega); exact h1) x (hC ▸ hx)
      have h3 := drop_high (u := j) (r := (X[j]'(by omega)).ring) hX (fun hk => Int.le_refl _) y (hB ▸ hy)
      omega
    have hAD : ∀ x ∈ A, ∀ y ∈ D, x.ring ≤ y.ring := by
      intro x hx y hy
      have hAp : 0 < A.length := List.length_pos_iff.2 (fun e => by rw [e] at hx; cases hx)
      have hDp : 0 < D.length := List.length_pos_iff.2 (fun e => by rw [e] at hy; cases hy)
      have h1 := hI (by omega)
      rw [getD_plc _ (by omega : j - 1 < X.length), getD_plc _ (by omega : q - j < Y.length)] at h1
      have h2 := take_low (u := j) (r := (Y[q - j]'(by omega)).ring + 1) hX (by omega) (fun k hk e => by obtain rfl : k = j - 1 := (by omega); omega) x (hA ▸ hx)
      have h3 := drop_high (u := q - j) (r := (Y[q - j]'(by omega)).ring) hY (fun hk => Int.le_refl _) y (hD ▸ hy)
      omega
    have hsp : isP (X ++ Y) = isP (A ++ C) ++ isP (B ++ D) := by
      rw [hXe, hYe]
      exact isP_split (by rw [← hXe]; exact hX) (by rw [← hYe]; exact hY) hCB hAD
    have hPl : (isP (A ++ C)).length = q := by rw [isP_len, List.length_append]; omega
    obtain ⟨E0, hE0⟩ : ∃ E, E = H ++ (A ++ (B ++ (C ++ (D ++ T)))) := ⟨_, rfl⟩
    obtain ⟨E1, hE1⟩ : ∃ E, E = H ++ (A ++ (C ++ (B ++ (D ++ T)))) := ⟨_, rfl⟩
    obtain ⟨E2, hE2⟩ : ∃ E, E = H ++ (isP (A ++ C) ++ (B ++ (D ++ T))) := ⟨_, rfl⟩
    obtain ⟨E3, hE3⟩ : ∃ E, E = H ++ (isP (A ++ C) ++ (isP (B ++ D) ++ T)) := ⟨_, rfl⟩
    have hs0 : H ++ (X ++ (Y ++ T)) = E0 := by rw [hE0, hXe, hYe]; simp
    have hs3 : H ++ (isP (X ++ Y) ++ T) = E3 := by rw [hE3, hsp]; simp
    have hl0 : E0.length = N := by rw [← hs0]; exact hN
    have hrot : j < X.length ∧ j < q → ∀ (P Q R : Int), P = ((hh + j : Nat) : Int) → Q = ((hh + X.length : Nat) : Int) → R = ((hh + X.length + (q - j) : Nat) : Int) → ∀ w1, (pN (some ⟨ba, oa, none⟩) N c E0).holds w1 →
        CallsTo Try.prog 140 [.slice (some ⟨ba, oa, none⟩) N c, .int .i64 P, .int .i64 Q, .int .i64 R, .func (.func 85) #[] #[]] w1 fun v w' => v = .tuple #[] ∧ Step (pN (some ⟨ba, oa, none⟩) N c E0) (pN (some ⟨ba, oa, none⟩) N c E1) w1 w' := by
      rintro ⟨hc1, hc2⟩ _ _ _ rfl rfl rfl w1 hw1
      have := m140 (some ⟨ba, oa, none⟩) c E0 (hh + j) (hh + X.length) (hh + X.length + (q - j)) w1 (by rw [hl0]; exact hw1) (by omega) (by omega) (by omega) (by omega)
      have e : perI E0 (rotI (hh + j) (hh + X.length) (hh + X.length + (q - j))) = E1 := by
        have h1 := per_rot (H ++ A) B C (D ++ T)
        rw [List.length_append, hhd, hAl, hBl, hCl, show hh + j + (X.length - j) = hh + X.length by omega] at h1
        rw [hE0, hE1]
        simpa using h1
      rw [e, hl0] at this
      exact this
    have hrec1 : 0 < j ∧ j < q → ∀ (P Q R : Int), P = (hh : Int) → Q = ((hh + j : Nat) : Int) → R = ((hh + q : Nat) : Int) → ∀ w1, (pN (some ⟨ba, oa, none⟩) N c E1).holds w1 →
        CallsTo Try.prog 128 [.slice (some ⟨ba, oa, none⟩) N c, .int .i64 P, .int .i64 Q, .int .i64 R, .func (.func 85) #[] #[]] w1 fun v w' => v = .tuple #[] ∧ Step (pN (some ⟨ba, oa, none⟩) N c E1) (pN (some ⟨ba, oa, none⟩) N c E2) w1 w' := by
      rintro ⟨hc1, hc2⟩ _ _ _ rfl rfl rfl w1 hw1
      have hl1 : E1.length = N := by rw [hE1]; simp only [List.length_append, hhd, hAl, hBl, hCl, hDl]; omega
      have := ih H A C (B ++ (D ++ T)) w1 (by omega) (fun e => by rw [e] at hAl; simp at hAl; omega) (fun e => by rw [e] at hCl; simp at hCl; omega) hsX.1 hsY.1 (by rw [← hE1]; exact hl1) (by rw [← hE1]; exact hw1)
      rw [← hE1, ← hE2, hhd, hAl, hCl, show hh + j + (q - j) = hh + q by omega] at this
      exact this
    have hrec2 : j < X.length ∧ q - j < Y.length → ∀ (P Q R : Int), P = ((hh + q : Nat) : Int) → Q = ((hh + X.length + (q - j) : Nat) : Int) → R = ((hh + X.length + Y.length : Nat) : Int) → ∀ w1, (pN (some ⟨ba, oa, none⟩) N c E2).holds w1 →
        CallsTo Try.prog 128 [.slice (some ⟨ba, oa, none⟩) N c, .int .i64 P, .int .i64 Q, .int .i64 R, .func (.func 85) #[] #[]] w1 fun v w' => v = .tuple #[] ∧ Step (pN (some ⟨ba, oa, none⟩) N c E2) (pN (some ⟨ba, oa, none⟩) N c E3) w1 w' := by
      rintro ⟨hc1, hc2⟩ _ _ _ rfl rfl rfl w1 hw1
      have hl2 : E2.length = N := by rw [hE2]; simp only [List.length_append, hhd, hPl, hBl, hDl]; omega
      have e2 : (H ++ isP (A ++ C)) ++ (B ++ (D ++ T)) = E2 := by rw [hE2, List.append_assoc]
      have e3 : (H ++ isP (A ++ C)) ++ (isP (B ++ D) ++ T) = E3 := by rw [hE3, List.append_assoc]
      have := ih (H ++ isP (A ++ C)) B D T w1 (by omega) (fun e => by rw [e] at hBl; simp at hBl; omega) (fun e => by rw [e] at hDl; simp at hDl; omega) hsX.2.1 hsY.2.1 (by rw [e2]; exact hl2) (by rw [e2]; exact hw1)
      rw [e2, e3, List.length_append, hhd, hPl, hBl, hDl, show hh + q + (X.length - j) = hh + X.length + (q - j) by omega, show hh + X.length + (q - j) + (Y.length - (q - j)) = hh + X.length + Y.length by omega] at this
      exact this
    have e01 : ¬ (j < X.length ∧ j < q) → E0 = E1 := fun hn => by
      rw [hE0, hE1]
      rcases Nat.lt_or_ge j X.length with h1 | h1
      · rw [show C = [] from List.eq_nil_of_length_eq_zero (by omega)]; rfl
      · rw [show B = [] from List.eq_nil_of_length_eq_zero (by omega)]; rfl
    have e12 : ¬ (0 < j ∧ j < q) → E1 = E2 := fun hn => by
      rw [hE1, hE2]
      rcases Nat.eq_zero_or_pos j with h1 | h1
      · rw [show A = [] from List.eq_nil_of_length_eq_zero (by omega), List.nil_append, List.nil_append, isP_self hsY.1]
      · rw [show C = [] from List.eq_nil_of_length_eq_zero (by omega), List.append_nil, isP_self hsX.1]; rfl
    have e23 : ¬ (j < X.length ∧ q - j < Y.length) → E2 = E3 := fun hn => by
      rw [hE2, hE3]
      rcases Nat.lt_or_ge j X.length with h1 | h1
      · rw [show D = [] from List.eq_nil_of_length_eq_zero (by omega), List.append_nil, isP_self hsX.2.1]; rfl
      · rw [show B = [] from List.eq_nil_of_length_eq_zero (by omega), List.nil_append, List.nil_append, isP_self hsY.2.1]
    rw [hs0] at hF ⊢
    rw [hs3]
    clear hE0 hE1 hE2 hE3 hs3 hl0 hsp hCB hAD hsX hsY hI hJ ih h hS0
    by_cases k1 : j < X.length ∧ j < q
    all_goals by_cases k2 : 0 < j ∧ j < q
    all_goals by_cases k3 : j < X.length ∧ q - j < Y.length
    all_goals (
      try (have hz := e01 k1; subst hz)
      try (have hz := e12 k2; subst hz)
      try (have hz := e23 k3; subst hz)
      repeat'(first|refine kv' ?_|apply jJ|refine jE' ?_|refine jp' ?_|(apply jc;kernel_rfl)|refine kg' ?_|refine kG' ?_|refine kB' fun _=>?_|refine kA' fun _=>?_|refine kK' fun _=>?_|refine kU' ?_|(apply subX;(iterate 2 exact rfl);(iterate 2(first|omega|(dsimp only;omega)));exact rfl)|(apply LR.call; (· exact rfl); (intro w1 h1; first | (refine CallsTo.mono (hrot k1 _ _ _ (by omega) (by omega) (by omega) w1 (h1.holds _ (mH _ _))) ?_; rintro v w2 ⟨rfl, st⟩; refine LR.back (h1.did (Sel.head _ _ _) rfl st (osl.dep _ _ _ _ _)) ?_; clear st h1) | (refine CallsTo.mono (hrec1 k2 _ _ _ (by omega) (by omega) (by omega) w1 (h1.holds _ (mH _ _))) ?_; rintro v w2 ⟨rfl, st⟩; refine LR.back (h1.did (Sel.head _ _ _) rfl st (osl.dep _ _ _ _ _)) ?_; clear st h1) | (refine CallsTo.mono (hrec2 k3 _ _ _ (by omega) (by omega) (by omega) w1 (h1.holds _ (mH _ _))) ?_; rintro v w2 ⟨rfl, st⟩; refine LR.back (h1.did (Sel.head _ _ _) rfl st (osl.dep _ _ _ _ _)) ?_; clear st h1)))|((first|refine kR' ?_ ?_|refine kQ' ?_ ?_);all_goals(intro hc;try simp only[hcs]at hc;try(exfalso;first|contradiction|omega))))
      all_goals first
        | (exfalso; omega)
        | (apply end0; (· exact rfl); intro w' hS
           subst hF
           exact ⟨rfl, hS.step rfl⟩))
    )
end Go.Proofs.Ytgblmkpfkcibiaa

namespace Go.Proofs.Ytgblmkpfkcibiaa
open Go.Hb
attribute [local irreducible] LR CW At Ev thn blk finK noG again CallsTo DW QL dnext TW DP gpost

theorem m128 (ad : Option Addr) (c N : Nat) (hn : N ≤ 140737488355328) : ∀ (k : Nat) (H X Y T : List Plc) (w : World), X.length + Y.length ≤ k → X ≠ [] → Y ≠ [] → SorP X → SorP Y → (H ++ (X ++ (Y ++ T))).length = N → (pN ad N c (H ++ (X ++ (Y ++ T)))).holds w →
    CallsTo Try.prog 128 [.slice ad N c, .int .i64 H.length, .int .i64 ((H.length + X.length : Nat) : Int), .int .i64 ((H.length + X.length + Y.length : Nat) : Int), .func (.func 85) #[] #[]] w fun v w' => v = .tuple #[] ∧ Step (pN ad N c (H ++ (X ++ (Y ++ T)))) (pN ad N c (H ++ (isP (X ++ Y) ++ T))) w w' := by
  intro k
  induction k with
  | zero =>
    intro H X Y T w hk hX
    exact (hX (List.eq_nil_of_length_eq_zero (by omega))).elim
  | succ k ih =>
    intro H X Y T w hk hXn hYn hX hY hN h
    have hXp := List.length_pos_iff.2 hXn
    have hYp := List.length_pos_iff.2 hYn
    by_cases h1 : X.length = 1
    · obtain ⟨x, rfl⟩ := List.length_eq_one_iff.1 h1
      exact m128a ad c H Y T x N w hN hY hYn h hn
    · by_cases h2 : Y.length = 1
      · obtain ⟨y, rfl⟩ := List.length_eq_one_iff.1 h2
        exact m128b ad c H X T y N w hN hX (by omega) h hn
      · exact m128c ad c H X Y T N w hN hX hY (by omega) (by omega) h hn fun H' X' Y' T' w' hl => ih H' X' Y' T' w' (by omega)
end Go.Proofs.Ytgblmkpfkcibiaa

namespace Go.Proofs.Ytgblmkpfkcibiaa
open Go.Hb
attribute [local irreducible] LR CW At Ev thn blk finK noG again CallsTo DW QL dnext TW DP gpost
set_option maxRecDepth 100000

theorem sorP_all (D : List Plc) : sorP D 0 (D.length - 0) = isP D := by
  unfold sorP
  rw [Nat.sub_zero, List.drop_zero, List.take_length, Nat.zero_add, List.drop_length, List.append_nil]
  rfl
def SortTo (N : Nat) : Prop := ∀ (a : Option Addr) (c : Nat) (D : List Plc) (w : World), (pN a D.length c D).holds w → D.length ≤ N →
  CallsTo Try.prog 56 [.slice a D.length c] w fun v w' => v = .slice a D.length c ∧ Step (pN a D.length c D) (pN a D.length c (isP D)) w w'
set_option maxHeartbeats 1000000 in
theorem m109s (a : Option Addr) (c : Nat) (D : List Plc) (w : World) (h : (pN a D.length c D).holds w) (hn : D.length ≤ 19) :
    CallsTo Try.prog 109 [.slice a D.length c, .int .i64 D.length, .func (.func 85) #[] #[]] w fun v w' => v = .tuple #[] ∧ Step (pN a D.length c D) (pN a D.length c (isP D)) w w' := by
  have hS0 : St w (pN a D.length c D).foot [pN a D.length c D] w := St.one h (fun k hk => (World.ownsRow.lt h k hk).2) (osl.dep _ _ _ _ _)
  generalize hF : (pN a D.length c D).foot = F at *
  refine go_in (n := 63) hS0 Try.func109 rfl rfl ?_
  repeat'(first|refine kv' ?_|apply jJ|refine jE' ?_|refine jp' ?_|(apply jc;kernel_rfl)|refine kg' ?_|refine kG' ?_|refine kB' fun _=>?_|refine kA' fun _=>?_|refine kK' fun _=>?_|refine kU' ?_|((first|refine kR' ?_ ?_|refine kQ' ?_ ?_);all_goals(intro hc;try simp only[hcs]at hc;try(exfalso;first|contradiction|omega))))
  apply CW.loop [7, 8, 11, 12, 13, 14, 15, 16, 17, 18, 19, 20, 21, 22] (fun _ : Nat => True) (fun _ => [(6, .int .i64 20), (7, .int .i64 0), (8, .int .i64 20)]) (fun _ => St w F [pN a D.length c D]) (fun i => i)
  · exact fun w' hw' => ⟨0, trivial, ⟨rfl, rfl, rfl, trivial⟩, hw'⟩
  intro i g1 _
  repeat'(first|refine kv' ?_|apply jJ|refine jE' ?_|refine jp' ?_|(apply jc;kernel_rfl)|refine kg' ?_|refine kG' ?_|refine kB' fun _=>?_|refine kA' fun _=>?_|refine kK' fun _=>?_|refine kU' ?_|((first|refine kR' ?_ ?_|refine kQ' ?_ ?_);all_goals(intro hc;try simp only[hcs]at hc;try(exfalso;first|contradiction|omega))))
  apply LR.call
  · exact rfl
  intro w1 h1
  refine CallsTo.mono (show CallsTo Try.prog 127 [.slice a D.length c, .int .i64 0, .int .i64 D.length, .func (.func 85) #[] #[]] w1 _ from m127 a c D 0 D.length w1 (h1.holds (pN a D.length c D) memZ) (by omega) (by omega) (by omega)) ?_
  rintro v w2 ⟨rfl, st⟩
  rw [sorP_all] at st
  refine LR.back (h1.did selZ rfl st (osl.dep _ _ _ _ _)) ?_
  clear st h1
  repeat'(first|refine kv' ?_|apply jJ|refine jE' ?_|refine jp' ?_|(apply jc;kernel_rfl)|refine kg' ?_|refine kG' ?_|refine kB' fun _=>?_|refine kA' fun _=>?_|refine kK' fun _=>?_|refine kU' ?_|((first|refine kR' ?_ ?_|refine kQ' ?_ ?_);all_goals(intro hc;try simp only[hcs]at hc;try(exfalso;first|contradiction|omega))))
  apply CW.loop [6, 7, 8, 9, 28, 29, 30, 31, 32, 33, 34, 35, 36, 37, 38, 39, 40, 41, 42, 43, 44, 45, 46, 47, 48, 49, 50, 51, 52, 53, 54, 55, 56, 57, 58, 59, 60, 61, 62] (fun _ : Nat => True) (fun _ => [(6, .int .i64 20)]) (fun _ => St w F [pN a D.length c (isP D)]) (fun i => i)
  · exact fun w' hw' => ⟨0, trivial, ⟨rfl, trivial⟩, hw'⟩
  intro i g2 _
  repeat'(first|refine kv' ?_|apply jJ|refine jE' ?_|refine jp' ?_|(apply jc;kernel_rfl)|refine kg' ?_|refine kG' ?_|refine kB' fun _=>?_|refine kA' fun _=>?_|refine kK' fun _=>?_|refine kU' ?_|((first|refine kR' ?_ ?_|refine kQ' ?_ ?_);all_goals(intro hc;try simp only[hcs]at hc;try(exfalso;first|contradiction|omega))))
  apply end0; (· exact rfl); intro w' hS
  subst hF
  exact ⟨rfl, hS.step rfl⟩
theorem sortTo_of {N : Nat} (hs : ∀ (a : Option Addr) (c : Nat) (D : List Plc) (w : World), (pN a D.length c D).holds w → D.length ≤ N →
    CallsTo Try.prog 109 [.slice a D.length c, .int .i64 D.length, .func (.func 85) #[] #[]] w fun v w' => v = .tuple #[] ∧ Step (pN a D.length c D) (pN a D.length c (isP D)) w w') : SortTo N := by
  intro a c D w h hn
  have hS0 : St w (pN a D.length c D).foot [pN a D.length c D] w := St.one h (fun k hk => (World.ownsRow.lt h k hk).2) (osl.dep _ _ _ _ _)
  generalize hF : (pN a D.length c D).foot = F at *
  refine go_in (n := 6) hS0 Try.func56 rfl rfl ?_
  repeat'(first|refine kv' ?_|apply jJ|refine jE' ?_|refine jp' ?_|(apply jc;kernel_rfl)|refine kg' ?_|refine kG' ?_|refine kB' fun _=>?_|refine kA' fun _=>?_|refine kK' fun _=>?_|refine kU' ?_|((first|refine kR' ?_ ?_|refine kQ' ?_ ?_);all_goals(intro hc;try simp only[hcs]at hc;try(exfalso;first|contradiction|omega))))
  apply LR.call
  · exact rfl
  intro w1 h1
  have h84 : CallsTo Try.prog 84 [.slice a D.length c, .func (.func 85) #[] #[]] w1 fun v w' => v = .tuple #[] ∧ Step (pN a D.length c D) (pN a D.length c (isP D)) w1 w' := by
    have hh : (pN a D.length c D).holds w1 := h1.holds (pN a D.length c D) memZ
    have hS0 : St w1 (pN a D.length c D).foot [pN a D.length c D] w1 := St.one hh (fun k hk => (World.ownsRow.lt hh k hk).2) (osl.dep _ _ _ _ _)
    rw [hF] at hS0
    refine go_in (n := 9) hS0 Try.func84 rfl rfl ?_
    repeat'(first|refine kv' ?_|apply jJ|refine jE' ?_|refine jp' ?_|(apply jc;kernel_rfl)|refine kg' ?_|refine kG' ?_|refine kB' fun _=>?_|refine kA' fun _=>?_|refine kK' fun _=>?_|refine kU' ?_|((first|refine kR' ?_ ?_|refine kQ' ?_ ?_);all_goals(intro hc;try simp only[hcs]at hc;try(exfalso;first|contradiction|omega))))
    apply LR.call
    · exact rfl
    intro w3 h3
    refine CallsTo.mono (show CallsTo Try.prog 109 [.slice a D.length c, .int .i64 D.length, .func (.func 85) #[] #[]] w3 _ from hs a c D w3 (h3.holds (pN a D.length c D) memZ) hn) ?_
    rintro v w4 ⟨rfl, st⟩
    refine LR.back (h3.did selZ rfl st (osl.dep _ _ _ _ _)) ?_
    clear st h3
    repeat'(first|refine kv' ?_|apply jJ|refine jE' ?_|refine jp' ?_|(apply jc;kernel_rfl)|refine kg' ?_|refine kG' ?_|refine kB' fun _=>?_|refine kA' fun _=>?_|refine kK' fun _=>?_|refine kU' ?_|((first|refine kR' ?_ ?_|refine kQ' ?_ ?_);all_goals(intro hc;try simp only[hcs]at hc;try(exfalso;first|contradiction|omega))))
    apply end0; (· exact rfl); intro w' hS
    refine ⟨rfl, ?_⟩
    rw [← hF] at hS
    exact hS.step rfl
  refine h84.mono ?_
  rintro v w2 ⟨rfl, st⟩
  refine LR.back (h1.did selZ rfl st (osl.dep _ _ _ _ _)) ?_
  clear st h1 h84
  repeat'(first|refine kv' ?_|apply jJ|refine jE' ?_|refine jp' ?_|(apply jc;kernel_rfl)|refine kg' ?_|refine kG' ?_|refine kB' fun _=>?_|refine kA' fun _=>?_|refine kK' fun _=>?_|refine kU' ?_|((first|refine kR' ?_ ?_|refine kQ' ?_ ?_);all_goals(intro hc;try simp only[hcs]at hc;try(exfalso;first|contradiction|omega))))
  (apply ret1; (· exact rfl); intro w' hS)
  subst hF
  exact ⟨rfl, hS.step rfl⟩
theorem sort_few : SortTo 19 := sortTo_of m109s
end Go.Proofs.Ytgblmkpfkcibiaa

namespace Go.Proofs.Ytgblmkpfkcibiaa
open Go.Hb
attribute [local irreducible] LR CW At Ev thn blk finK noG again CallsTo DW QL dnext TW DP gpost
set_option maxRecDepth 100000

def chS (s : Nat) (D : List Plc) : List Plc :=
  if h : s = 0 ∨ D.length ≤ s then isP D else isP (D.take s) ++ chS s (D.drop s)
termination_by D.length
decreasing_by simp only [List.length_drop]; omega
theorem chS_few {s : Nat} {D : List Plc} (h : D.length ≤ s) : chS s D = isP D := by rw [chS, dif_pos (.inr h)]
theorem chS_nil {s : Nat} : chS s [] = [] := by rw [chS_few (by simp)]; rfl
theorem chS_more {s : Nat} {D : List Plc} (hs : 0 < s) (h : s ≤ D.length) : chS s D = isP (D.take s) ++ chS s (D.drop s) := by
  rcases Nat.lt_or_ge s D.length with h1 | h1
  · rw [chS, dif_neg (by omega)]
  · have e : D.length = s := by omega
    rw [chS_few (by omega), List.take_of_length_le (by omega), List.drop_of_length_le (by omega), chS_nil, List.append_nil]
theorem chS_len (s : Nat) : ∀ (k : Nat) (D : List Plc), D.length ≤ k → (chS s D).length = D.length
  | 0, D, h => by rw [chS_few (by omega), isP_len]
  | k + 1, D, h => by
    rw [chS]
    split
    · rw [isP_len]
    · rename_i hn
      rw [List.length_append, isP_len, chS_len s k _ (by rw [List.length_drop]; omega), List.length_take, List.length_drop]
      omega
theorem isP_both (X Y : List Plc) : isP (isP X ++ isP Y) = isP (X ++ Y) :=
  isP_of (isP_sor _) fun r => by rw [isP_ofR, ofR_append, isP_ofR, isP_ofR, ofR_append]
structure BlS where
  H : List Plc
  R : List Plc
structure BlI (s : Nat) (G : List Plc) (n : Nat) (x : BlS) : Prop where
  len : x.H.length + x.R.length = n
  eq : x.H ++ chS s x.R = G
set_option maxHeartbeats 4000000 in
theorem m109 (a : Option Addr) (c : Nat) (D : List Plc) (w : World) (h : (pN a D.length c D).holds w) (hn : D.length ≤ 140737488355328) :
    CallsTo Try.prog 109 [.slice a D.length c, .int .i64 D.length, .func (.func 85) #[] #[]] w fun v w' => v = .tuple #[] ∧ Step (pN a D.length c D) (pN a D.length c (isP D)) w w' := by
  have hS0 : St w (pN a D.length c D).foot [pN a D.length c D] w := St.one h (fun k hk => (World.ownsRow.lt h k hk).2) (osl.dep _ _ _ _ _)
  generalize hF : (pN a D.length c D).foot = F at *
  refine go_in (n := 63) hS0 Try.func109 rfl rfl ?_
  obtain ⟨N, hN⟩ : ∃ N, D.length = N := ⟨_, rfl⟩
  rw [hN] at hn ⊢
  have hins : ∀ (H R : List Plc) (k : Nat), H.length + R.length = N → k ≤ R.length → ∀ (p q : Int), p = (H.length : Int) → q = ((H.length + k : Nat) : Int) → ∀ w1, (pN a N c (H ++ R)).holds w1 →
      CallsTo Try.prog 127 [.slice a N c, .int .i64 p, .int .i64 q, .func (.func 85) #[] #[]] w1 fun v w' => v = .tuple #[] ∧ Step (pN a N c (H ++ R)) (pN a N c (H ++ (isP (R.take k) ++ R.drop k))) w1 w' := by
    rintro H R k hl hk _ _ rfl rfl w1 hw1
    have hL : (H ++ R).length = N := by rw [List.length_append]; exact hl
    have h1 := m127 a c (H ++ R) H.length (H.length + k) w1 (by rw [hL]; exact hw1) (by omega) (by omega) (by omega)
    have e : sorP (H ++ R) H.length (H.length + k - H.length) = H ++ (isP (R.take k) ++ R.drop k) := by
      have h2 := sorP_mid H (R.take k) (R.drop k)
      rw [List.take_append_drop, List.length_take, show min k R.length = k by omega] at h2
      rw [show H.length + k - H.length = k by omega, h2]
    rw [e, hL] at h1
    exact h1
  repeat'(first|refine kv' ?_|apply jJ|refine jE' ?_|refine jp' ?_|(apply jc;kernel_rfl)|refine kg' ?_|refine kG' ?_|refine kB' fun _=>?_|refine kA' fun _=>?_|refine kK' fun _=>?_|refine kU' ?_|((first|refine kR' ?_ ?_|refine kQ' ?_ ?_);all_goals(intro hc;try simp only[hcs]at hc;try(exfalso;first|contradiction|omega))))
  apply CW.loop [7, 8, 11, 12, 13, 14, 15, 16, 17, 18, 19, 20, 21, 22] (BlI 20 (chS 20 D) N) (fun x => [(7, .int .i64 (x.H.length : Int)), (8, .int .i64 ((x.H.length + 20 : Nat) : Int))]) (fun x => St w F [pN a N c (x.H ++ x.R)]) (fun x => x.R.length)
  · exact fun w' hw' => ⟨⟨[], D⟩, ⟨by simp only [List.length_nil]; omega, rfl⟩, ⟨rfl, rfl, trivial⟩, hw'⟩
  rintro ⟨H, R⟩ g1 ⟨hl, heq⟩
  simp only at hl heq ⊢
  by_cases h20 : 20 ≤ R.length
  · repeat'(first|refine kv' ?_|apply jJ|refine jE' ?_|refine jp' ?_|(apply jc;kernel_rfl)|refine kg' ?_|refine kG' ?_|refine kB' fun _=>?_|refine kA' fun _=>?_|refine kK' fun _=>?_|refine kU' ?_|(apply addX;(iterate 2 exact rfl);(iterate 2(first|omega|(dsimp only;omega)));exact rfl)|(apply LR.call; (· exact rfl); (intro w1 h1; refine CallsTo.mono (hins H R 20 hl h20 _ _ rfl rfl w1 (h1.holds _ (mH _ _))) ?_; rintro v w2 ⟨rfl, st⟩; refine LR.back (h1.did (Sel.head _ _ _) rfl st (osl.dep _ _ _ _ _)) ?_; clear st h1))|((first|refine kR' ?_ ?_|refine kQ' ?_ ?_);all_goals(intro hc;try simp only[hcs]at hc;try(exfalso;first|contradiction|omega))))
    have hl2 : (H ++ isP (R.take 20)).length = H.length + 20 := by rw [List.length_append, isP_len, List.length_take]; omega
    refine At.again (⟨H ++ isP (R.take 20), R.drop 20⟩ : BlS) ⟨by simp only [hl2, List.length_drop]; omega, ?_⟩ ?_ ⟨?_, ?_, trivial⟩ (fun w' hw' => ?_) (by simp only [List.length_drop]; omega)
    · simp only
      rw [← heq, chS_more (by omega) h20, List.append_assoc]
    · (repeat (first | exact Out.refl _ _ | exact Out.mix | (apply Out.upd; (· exact rfl)) | (apply Out.updL; (· exact rfl)) | (apply Out.mixs; (· exact rfl))))
    · exact congrArg (Value.int .i64) (by simp only [hl2])
    · exact congrArg (Value.int .i64) (by simp only [hl2]; omega)
    · simp only
      rw [List.append_assoc]; exact hw'
  rw [chS_few (by omega)] at heq
  repeat'(first|refine kv' ?_|apply jJ|refine jE' ?_|refine jp' ?_|(apply jc;kernel_rfl)|refine kg' ?_|refine kG' ?_|refine kB' fun _=>?_|refine kA' fun _=>?_|refine kK' fun _=>?_|refine kU' ?_|(apply LR.call; (· exact rfl); (intro w1 h1; refine CallsTo.mono (hins H R R.length hl (Nat.le_refl _) _ _ rfl (by omega) w1 (h1.holds _ (mH _ _))) ?_; rintro v w2 ⟨rfl, st⟩; rw [List.take_length, List.drop_length, List.append_nil, heq] at st; refine LR.back (h1.did (Sel.head _ _ _) rfl st (osl.dep _ _ _ _ _)) ?_; clear st h1))|((first|refine kR' ?_ ?_|refine kQ' ?_ ?_);all_goals(intro hc;try simp only[hcs]at hc;try(exfalso;first|contradiction|omega))))
  have hmrg : ∀ (H X Y T : List Plc), H.length + (X.length + (Y.length + T.length)) = N → 0 < X.length → 0 < Y.length → ∀ (p q r : Int), p = (H.length : Int) → q = ((H.length + X.length : Nat) : Int) → r = ((H.length + X.length + Y.length : Nat) : Int) → ∀ w1, (pN a N c (H ++ (isP X ++ (isP Y ++ T)))).holds w1 →
      CallsTo Try.prog 128 [.slice a N c, .int .i64 p, .int .i64 q, .int .i64 r, .func (.func 85) #[] #[]] w1 fun v w' => v = .tuple #[] ∧ Step (pN a N c (H ++ (isP X ++ (isP Y ++ T)))) (pN a N c (H ++ (isP (X ++ Y) ++ T))) w1 w' := by
    rintro H X Y T hl hx hy _ _ _ rfl rfl rfl w1 hw1
    have h1 := m128 a c N hn _ H (isP X) (isP Y) T w1 (Nat.le_refl _) (fun e => by have := isP_len X; rw [e] at this; simp at this; omega) (fun e => by have := isP_len Y; rw [e] at this; simp at this; omega) (isP_sor _) (isP_sor _) (by simp only [List.length_append, isP_len]; omega) hw1
    rw [isP_len, isP_len, isP_both] at h1
    exact h1
  apply CW.loop [6, 7, 8, 9, 28, 29, 30, 31, 32, 33, 34, 35, 36, 37, 38, 39, 40, 41, 42, 43, 44, 45, 46, 47, 48, 49, 50, 51, 52, 53, 54, 55, 56, 57, 58, 59, 60, 61, 62] (fun s : Nat => 20 ≤ s) (fun s => [(6, .int .i64 (s : Int))]) (fun s => St w F [pN a N c (chS s D)]) (fun s => N - s)
  · exact fun w' hw' => ⟨20, Nat.le_refl _, ⟨rfl, trivial⟩, hw'⟩
  intro s g2 hs
  by_cases hsN : s < N
  rotate_left
  · rw [chS_few (by omega)]
    repeat'(first|refine kv' ?_|apply jJ|refine jE' ?_|refine jp' ?_|(apply jc;kernel_rfl)|refine kg' ?_|refine kG' ?_|refine kB' fun _=>?_|refine kA' fun _=>?_|refine kK' fun _=>?_|refine kU' ?_|((first|refine kR' ?_ ?_|refine kQ' ?_ ?_);all_goals(intro hc;try simp only[hcs]at hc;try(exfalso;first|contradiction|omega))))
    apply end0; (· exact rfl); intro w' hS
    subst hF
    subst hN
    exact ⟨rfl, hS.step rfl⟩
  repeat'(first|refine kv' ?_|apply jJ|refine jE' ?_|refine jp' ?_|(apply jc;kernel_rfl)|refine kg' ?_|refine kG' ?_|refine kB' fun _=>?_|refine kA' fun _=>?_|refine kK' fun _=>?_|refine kU' ?_|(apply mulX;(iterate 2 exact rfl);(iterate 2(first|omega|(dsimp only;omega)));exact rfl)|((first|refine kR' ?_ ?_|refine kQ' ?_ ?_);all_goals(intro hc;try simp only[hcs]at hc;try(exfalso;first|contradiction|omega))))
  apply CW.loop [7, 8, 33, 34, 35, 36, 37, 38, 39, 40, 41, 42, 43, 44, 45, 46, 47, 48] (BlI (2 * s) (chS (2 * s) D) N) (fun x => [(7, .int .i64 (x.H.length : Int)), (8, .int .i64 ((x.H.length + 2 * s : Nat) : Int))]) (fun x => St w F [pN a N c (x.H ++ chS s x.R)]) (fun x => x.R.length)
  · exact fun w' hw' => ⟨⟨[], D⟩, ⟨by simp only [List.length_nil]; omega, rfl⟩, ⟨rfl, congrArg (Value.int .i64) (by simp only [List.length_nil]; omega), trivial⟩, hw'⟩
  rintro ⟨H, R⟩ g3 ⟨hl, heq⟩
  simp only at hl heq ⊢
  by_cases h2s : 2 * s ≤ R.length
  · have hc1 : chS s R = isP (R.take s) ++ (isP ((R.drop s).take s) ++ chS s (R.drop (2 * s))) := by
      rw [chS_more (by omega) (by omega), chS_more (by omega) (by rw [List.length_drop]; omega), List.drop_drop, show s + s = 2 * s by omega]
    have hcl : (chS s (R.drop (2 * s))).length = R.length - 2 * s := by rw [chS_len s _ _ (Nat.le_refl _), List.length_drop]
    have htk : R.take s ++ (R.drop s).take s = R.take (2 * s) := by rw [show 2 * s = s + s by omega, List.take_add]
    have hxl : (R.take s).length = s := by rw [List.length_take]; omega
    have hyl : ((R.drop s).take s).length = s := by rw [List.length_take, List.length_drop]; omega
    rw [hc1]
    repeat'(first|refine kv' ?_|apply jJ|refine jE' ?_|refine jp' ?_|(apply jc;kernel_rfl)|refine kg' ?_|refine kG' ?_|refine kB' fun _=>?_|refine kA' fun _=>?_|refine kK' fun _=>?_|refine kU' ?_|(apply mulX;(iterate 2 exact rfl);(iterate 2(first|omega|(dsimp only;omega)));exact rfl)|(apply addX;(iterate 2 exact rfl);(iterate 2(first|omega|(dsimp only;omega)));exact rfl)|(apply LR.call; (· exact rfl); (intro w1 h1; refine CallsTo.mono (hmrg H (R.take s) ((R.drop s).take s) (chS s (R.drop (2 * s))) (by omega) (by omega) (by omega) _ _ _ rfl (by omega) (by omega) w1 (h1.holds _ (mH _ _))) ?_; rintro v w2 ⟨rfl, st⟩; rw [htk] at st; refine LR.back (h1.did (Sel.head _ _ _) rfl st (osl.dep _ _ _ _ _)) ?_; clear st h1))|((first|refine kR' ?_ ?_|refine kQ' ?_ ?_);all_goals(intro hc;try simp only[hcs]at hc;try(exfalso;first|contradiction|omega))))
    have hl2 : (H ++ isP (R.take (2 * s))).length = H.length + 2 * s := by rw [List.length_append, isP_len, List.length_take]; omega
    refine At.again (⟨H ++ isP (R.take (2 * s)), R.drop (2 * s)⟩ : BlS) ⟨by simp only [hl2, List.length_drop]; omega, ?_⟩ ?_ ⟨?_, ?_, trivial⟩ (fun w' hw' => ?_) (by simp only [List.length_drop]; omega)
    · simp only
      rw [← heq, chS_more (by omega) h2s, List.append_assoc]
    · (repeat (first | exact Out.refl _ _ | exact Out.mix | (apply Out.upd; (· exact rfl)) | (apply Out.updL; (· exact rfl)) | (apply Out.mixs; (· exact rfl))))
    · exact congrArg (Value.int .i64) (by simp only [hl2])
    · exact congrArg (Value.int .i64) (by simp only [hl2]; omega)
    · simp only
      rw [List.append_assoc]; exact hw'
  rw [chS_few (s := 2 * s) (D := R) (by omega)] at heq
  by_cases h1s : s < R.length
  · have hc1 : chS s R = isP (R.take s) ++ (isP (R.drop s) ++ []) := by
      rw [chS_more (by omega) (by omega), chS_few (by rw [List.length_drop]; omega), List.append_nil]
    have hxl : (R.take s).length = s := by rw [List.length_take]; omega
    have hyl : (R.drop s).length = R.length - s := by rw [List.length_drop]
    rw [hc1]
    repeat'(first|refine kv' ?_|apply jJ|refine jE' ?_|refine jp' ?_|(apply jc;kernel_rfl)|refine kg' ?_|refine kG' ?_|refine kB' fun _=>?_|refine kA' fun _=>?_|refine kK' fun _=>?_|refine kU' ?_|(apply mulX;(iterate 2 exact rfl);(iterate 2(first|omega|(dsimp only;omega)));exact rfl)|(apply addX;(iterate 2 exact rfl);(iterate 2(first|omega|(dsimp only;omega)));exact rfl)|(apply LR.call; (· exact rfl); (intro w1 h1; refine CallsTo.mono (hmrg H (R.take s) (R.drop s) [] (by simp only [List.length_nil]; omega) (by omega) (by omega) _ _ _ rfl (by omega) (by omega) w1 (h1.holds _ (mH _ _))) ?_; rintro v w2 ⟨rfl, st⟩; rw [List.take_append_drop, List.append_nil (isP R), heq] at st; refine LR.back (h1.did (Sel.head _ _ _) rfl st (osl.dep _ _ _ _ _)) ?_; clear st h1))|((first|refine kR' ?_ ?_|refine kQ' ?_ ?_);all_goals(intro hc;try simp only[hcs]at hc;try(exfalso;first|contradiction|omega))))
    refine At.again (2 * s) (by omega) ?_ ⟨?_, trivial⟩ (fun w' hw' => hw') (by omega)
    · (repeat (first | exact Out.refl _ _ | exact Out.mix | (apply Out.upd; (· exact rfl)) | (apply Out.updL; (· exact rfl)) | (apply Out.mixs; (· exact rfl))))
    · exact congrArg (Value.int .i64) (by omega)
  · rw [chS_few (s := s) (D := R) (by omega), heq]
    repeat'(first|refine kv' ?_|apply jJ|refine jE' ?_|refine jp' ?_|(apply jc;kernel_rfl)|refine kg' ?_|refine kG' ?_|refine kB' fun _=>?_|refine kA' fun _=>?_|refine kK' fun _=>?_|refine kU' ?_|(apply mulX;(iterate 2 exact rfl);(iterate 2(first|omega|(dsimp only;omega)));exact rfl)|(apply addX;(iterate 2 exact rfl);(iterate 2(first|omega|(dsimp only;omega)));exact rfl)|((first|refine kR' ?_ ?_|refine kQ' ?_ ?_);all_goals(intro hc;try simp only[hcs]at hc;try(exfalso;first|contradiction|omega))))
    refine At.again (2 * s) (by omega) ?_ ⟨?_, trivial⟩ (fun w' hw' => hw') (by omega)
    · (repeat (first | exact Out.refl _ _ | exact Out.mix | (apply Out.upd; (· exact rfl)) | (apply Out.updL; (· exact rfl)) | (apply Out.mixs; (· exact rfl))))
    · exact congrArg (Value.int .i64) (by omega)
theorem sort_all : SortTo 140737488355328 := sortTo_of fun a c D w h hn => m109 a c D w h hn
end Go.Proofs.Ytgblmkpfkcibiaa

namespace Go.Proofs.Ytgblmkpfkcibiaa
open Go.Hb
attribute [local irreducible] LR CW At Ev thn blk finK noG again CallsTo DW QL dnext TW DP
set_option maxRecDepth 100000

structure Pln where
  R : List Int
  G : List Gat
structure PlA where
  ra : Option Addr
  rc : Nat
  ga : Option Addr
  gc : Nat
def Gat.cells (g : Gat) : List Value := [.int .i64 g.n, .int .i64 g.a, .int .i64 g.b]
theorem gat_len (g : Gat) : (Gat.cells g).length = 3 := rfl
abbrev gv (G : List Gat) : List Value := G.flatMap Gat.cells
def Pln.cells (p : Pln) (A : PlA) : List Value := [.slice A.ra p.R.length A.rc, .slice A.ga p.G.length A.gc]
def Pln.val (p : Pln) (A : PlA) : Value := .agg (p.cells A).toArray
structure PlR (w : World) (p : Pln) (A : PlA) : Prop where
  r : Rd w A.ra (iv p.R)
  g : Rd w A.ga (gv p.G)
abbrev i64P (c : Int) : Prop := -9223372036854775808 ≤ c ∧ c ≤ 9223372036854775807
structure PlI (p : Pln) : Prop where
  r : ∀ c ∈ p.R, i64P c
  rl : p.R.length * 8 ≤ 140737488351232
  gl : p.G.length * 24 ≤ 140737488351232
theorem pl_in {w : World} {p : Pln} {A : PlA} (h : PlR w p A) : St w NoF [rdA A.ga (gv p.G), rdA A.ra (iv p.R)] w := (St.rd1 h.r).addRd h.g (fun _ _ h => h)

theorem m61 (c : Int) (w : World) (hcr : i64P c) : CallsTo Try.prog 61 [.int .i64 c] w fun v w' => v = .bool (membersC c) ∧ Grew w w' := by
  refine go_in (n := 10) (St.refl _ NoF) Try.func61 rfl rfl ?_
  repeat'(first|refine kv' ?_|apply jJ|refine jE' ?_|refine jp' ?_|(apply jc;kernel_rfl)|refine kg' ?_|refine kG' ?_|refine kB' fun _=>?_|refine kA' fun _=>?_|refine kK' fun _=>?_|refine kU' ?_|(apply kq; (· exact rfl); (· intro w1 h1; exact CallsTo.q (show CallsTo Try.prog 87 [.int .i64 c] w1 _ from q61 c w1 hcr) h1))|((first|refine kR' ?_ ?_|refine kQ' ?_ ?_);all_goals(intro hc;try simp only[hcs]at hc;try(exfalso;first|contradiction|omega))))
  all_goals (
    (apply ret1; (· exact rfl); intro w' hS)
    refine ⟨congrArg Value.bool ?_, hS.toKeep⟩
    unfold membersC
    cases crewOk c <;> simp_all)
theorem m46 (p : Pln) (A : PlA) (w : World) (hr : PlR w p A) (hi : PlI p) : CallsTo Try.prog 46 [p.val A] w fun v w' => v = .bool (p.R.all membersC) ∧ Grew w w' := by
  refine go_in (n := 16) (pl_in hr) Try.func46 rfl rfl ?_
  have hrl := hi.rl
  repeat'(first|refine kv' ?_|apply jJ|refine jE' ?_|refine jp' ?_|(apply jc;kernel_rfl)|refine kg' ?_|refine kG' ?_|refine kB' fun _=>?_|refine kA' fun _=>?_|refine kK' fun _=>?_|refine kU' ?_|((first|refine kR' ?_ ?_|refine kQ' ?_ ?_);all_goals(intro hc;try simp only[hcs]at hc;try(exfalso;first|contradiction|omega))))
  apply CW.loop [2, 4, 8, 9, 10, 11, 12, 13, 14, 15] (fun i : Nat => i ≤ p.R.length ∧ (p.R.take i).all membersC = true) (fun i : Nat => [(8, Value.int .i64 (i : Int))]) (fun _ => St w NoF [rdA A.ra (iv p.R)]) (fun i => p.R.length - i)
  · exact fun w' hw' => ⟨0, ⟨by omega, rfl⟩, ⟨rfl, trivial⟩, hw'.sub subZ⟩
  rintro i g ⟨hil, hall⟩
  by_cases hlt : i < p.R.length
  · obtain ⟨ba, oa, hra⟩ := hr.r.form (fun e => by have := congrArg List.length e; simp only [iv_length, List.length_nil] at this; omega)
    rw [hra]
    have htk : (p.R.take (i + 1)).all membersC = membersC p.R[i] := by
      rw [List.take_add_one, List.getElem?_eq_getElem hlt, List.all_append, hall]; simp
    repeat'(first|refine kv' ?_|apply jJ|refine jE' ?_|refine jp' ?_|(apply jc;kernel_rfl)|refine kg' ?_|refine kG' ?_|refine kB' fun _=>?_|refine kA' fun _=>?_|refine kK' fun _=>?_|refine kU' ?_|(apply idxX;(iterate 2 exact rfl);(iterate 2(first|omega|(dsimp only;omega)));exact rfl)|(apply LR.ev; (· apply Ev.load_rd; (· exact rfl); (· repeat (first | exact mH _ _ | apply mT)); (· exact iv_at (i := i) (by simp) (by omega))); (· exact rfl))|(apply addX;(iterate 2 exact rfl);(iterate 2(first|omega|(dsimp only;omega)));exact rfl)|(apply kq; (· exact rfl); (· intro w1 h1; show CallsTo Try.prog 61 [.int .i64 p.R[i]] w1 _; exact CallsTo.q (m61 p.R[i] w1 (hi.r _ (List.getElem_mem hlt))) h1))|((first|refine kR' ?_ ?_|refine kQ' ?_ ?_);all_goals(intro hc;try simp only[hcs]at hc;try(exfalso;first|contradiction|omega))))
    · (apply ret1; (· exact rfl); intro w' hS)
      refine ⟨congrArg Value.bool ?_, hS.toKeep⟩
      rw [eq_comm, List.all_eq_false]
      exact ⟨p.R[i], List.getElem_mem hlt, by simp_all⟩
    · refine At.again (i + 1) ⟨by omega, by rw [htk]; assumption⟩ ?_ ⟨rfl, trivial⟩ (fun w' hw' => hw') (by omega)
      (repeat (first | exact Out.refl _ _ | exact Out.mix | (apply Out.upd; (· exact rfl)) | (apply Out.updL; (· exact rfl)) | (apply Out.mixs; (· exact rfl))))
  · have hie : i = p.R.length := by omega
    subst hie
    rw [List.take_length] at hall
    repeat'(first|refine kv' ?_|apply jJ|refine jE' ?_|refine jp' ?_|(apply jc;kernel_rfl)|refine kg' ?_|refine kG' ?_|refine kB' fun _=>?_|refine kA' fun _=>?_|refine kK' fun _=>?_|refine kU' ?_|((first|refine kR' ?_ ?_|refine kQ' ?_ ?_);all_goals(intro hc;try simp only[hcs]at hc;try(exfalso;first|contradiction|omega))))
    (apply ret1; (· exact rfl); intro w' hS)
    exact ⟨by rw [hall]; rfl, hS.toKeep⟩
theorem shl1 {k : Nat} (h : k ≤ 8) : IntKind.i64.wrap (1 * 2 ^ (min (k : Int).toNat IntKind.i64.bits)) = 2 ^ k := by
  rcases low9 h with rfl | rfl | rfl | rfl | rfl | rfl | rfl | rfl | rfl <;> decide
theorem shr1 (c : Int) {k : Nat} (h : k ≤ 8) : decide (andI .i64 (c.fdiv (2 ^ (min (k : Int).toNat IntKind.i64.bits))) 1 = 1) = tb c k := by
  have e : min (k : Int).toNat IntKind.i64.bits = k := by show min _ 64 = _; omega
  rw [e, and_one, tb_div c k h]
theorem splice_iv (l : List Int) (i : Nat) (x : Int) (h : i < l.length) : splice (iv l) i [.int .i64 x] = iv (l.set i x) := by
  unfold splice
  simp only [iv, List.length_cons, List.length_nil, List.map_set]
  rw [List.set_eq_take_append_cons_drop, if_pos (by simpa using h)]
  simp
theorem ps0_snoc (i : Nat) : ps0 (i + 1) = ps0 i ++ [2 ^ i] := by unfold ps0; rw [List.range_succ, List.map_append]; rfl
theorem ps0_len (i : Nat) : (ps0 i).length = i := by simp [ps0]
theorem psG_len (ps : List Int) (g : Gat) : (psG ps g).length = ps.length := by simp [psG]
def psI (ps : List Int) (g : Gat) (i : Nat) : List Int := (psG ps g).take i ++ ps.drop i
theorem psI_len (ps : List Int) (g : Gat) {i : Nat} (h : i ≤ ps.length) : (psI ps g i).length = ps.length := by
  unfold psI; rw [List.length_append, List.length_take, List.length_drop, psG_len]; omega
theorem psI_set (ps : List Int) (g : Gat) {i : Nat} (h : i < ps.length) : psI ps g (i + 1) = if tb (bothG ps g) i then (psI ps g i).set i (bothG ps g) else psI ps g i := by
  have hl : i < (psG ps g).length := by rw [psG_len]; exact h
  have hv : (psG ps g)[i] = if tb (bothG ps g) i then bothG ps g else ps.getD i 0 := by simp [psG]
  have hd : ps.getD i 0 = ps[i] := by rw [List.getD_eq_getElem?_getD, List.getElem?_eq_getElem h]; rfl
  unfold psI
  rw [List.take_add_one, List.getElem?_eq_getElem hl, hv, hd, List.drop_eq_getElem_cons h]
  have ht : ((psG ps g).take i).length = i := by rw [List.length_take]; omega
  split
  · rw [List.set_append_right _ _ (by omega), ht, Nat.sub_self, List.append_assoc]
    rfl
  · simp
theorem getD_nat (l : List Int) {i : Nat} (h : i < l.length) : l.getD i 0 = l[i] := by rw [List.getD_eq_getElem?_getD, List.getElem?_eq_getElem h]; rfl
theorem gw_bad {R : List Int} {g : Gat} {r : List Gat} {tw : Int} {ps : List Int} (h : ¬((0 ≤ g.a ∧ g.a < g.b ∧ g.b < R.length) ∧ hasC tw g.n = true)) : gwAll R (g :: r) tw ps = false := by
  unfold gwAll gwOk
  by_cases h1 : 0 ≤ g.a ∧ g.a < g.b ∧ g.b < R.length
  · have h2 : hasC tw g.n = false := by
      cases hx : hasC tw g.n with
      | false => rfl
      | true => exact (h ⟨h1, hx⟩).elim
    rw [h2]
    simp
  · rw [decide_eq_false h1]
    simp
theorem gw_bad2 {R : List Int} {g : Gat} {r : List Gat} {tw : Int} {ps : List Int} {i : Nat} (hi : i < R.length) (h : ¬(hasC (R.getD i 0) g.n = decide ((i : Int) = g.a ∨ (i : Int) = g.b))) : gwAll R (g :: r) tw ps = false := by
  unfold gwAll gwOk
  have : ((List.range R.length).all fun i => hasC (R.getD i 0) g.n == decide ((i : Int) = g.a ∨ (i : Int) = g.b)) = false := by
    rw [List.all_eq_false]
    exact ⟨i, List.mem_range.2 hi, by simpa using h⟩
  rw [this]
  simp
theorem gw_bad3 {R : List Int} {g : Gat} {r : List Gat} {tw : Int} {ps : List Int} (h : tb (ps.getD g.a.toNat 0) g.b.toNat = true) : gwAll R (g :: r) tw ps = false := by
  unfold gwAll gwOk
  rw [h]
  simp
set_option maxHeartbeats 4000000 in
theorem m47 (p : Pln) (A : PlA) (w : World) (hr : PlR w p A) (hi : PlI p) (hl1 : 1 ≤ p.R.length) (hl4 : p.R.length ≤ 4) (hm : p.R.all membersC = true) :
    CallsTo Try.prog 47 [p.val A] w fun v w' => v = .bool (gwAll p.R p.G (twF p.R).1 (ps0 p.R.length)) ∧ Grew w w' := by
  refine go_in (n := 143) (pl_in hr) Try.func47 rfl rfl ?_
  have hgl := hi.gl
  obtain ⟨ba, oa, hra⟩ := hr.r.form (fun e => by have := congrArg List.length e; simp only [iv_length, List.length_nil] at this; omega)
  rw [show p.val A = .agg [.slice A.ra p.R.length A.rc, .slice A.ga p.G.length A.gc].toArray from rfl, hra]
  repeat'(first|refine kv' ?_|apply jJ|refine jE' ?_|refine jp' ?_|(apply jc;kernel_rfl)|refine kg' ?_|refine kG' ?_|refine kB' fun _=>?_|refine kA' fun _=>?_|refine kK' fun _=>?_|refine kU' ?_|((first|refine kR' ?_ ?_|refine kQ' ?_ ?_);all_goals(intro hc;try simp only[hcs]at hc;try(exfalso;first|contradiction|omega))))
  rename_i b1
  apply CW.loop [3, 4, 6, 18, 19, 20, 21, 22, 23, 24, 25, 26, 27, 28, 29, 30] (fun i : Nat => i ≤ p.R.length) (fun i : Nat => [(3, Value.int .i64 ((p.R.take i).foldl twS (0, 0)).1), (4, .int .i64 ((p.R.take i).foldl twS (0, 0)).2), (18, .int .i64 (i : Int))])
    (fun _ => St w NoF [.own b1 (.cells [Value.slice (some ⟨ba, oa, none⟩) p.R.length A.rc, .slice A.ga p.G.length A.gc].toArray 25 (0, 0)), rdA A.ga (gv p.G), rdA (some ⟨ba, oa, none⟩) (iv p.R)]) (fun i => p.R.length - i)
  · exact fun w' hw' => ⟨0, by omega, ⟨rfl, rfl, rfl, trivial⟩, hw'⟩
  intro i g1 hil
  by_cases hlt : i < p.R.length
  · have htk : (p.R.take (i + 1)).foldl twS (0, 0) = twS ((p.R.take i).foldl twS (0, 0)) p.R[i] := by
      rw [List.take_add_one, List.getElem?_eq_getElem hlt, List.foldl_append]; rfl
    repeat'(first|refine kv' ?_|apply jJ|refine jE' ?_|refine jp' ?_|(apply jc;kernel_rfl)|refine kg' ?_|refine kG' ?_|refine kB' fun _=>?_|refine kA' fun _=>?_|refine kK' fun _=>?_|refine kU' ?_|(apply idxX;(iterate 2 exact rfl);(iterate 2(first|omega|(dsimp only;omega)));exact rfl)|(apply LR.ev; (· apply Ev.load_rd; (· exact rfl); (· repeat (first | exact mH _ _ | apply mT)); (· exact iv_at (i := i) (by simp) (by omega))); (· exact rfl))|(apply addX;(iterate 2 exact rfl);(iterate 2(first|omega|(dsimp only;omega)));exact rfl)|((first|refine kR' ?_ ?_|refine kQ' ?_ ?_);all_goals(intro hc;try simp only[hcs]at hc;try(exfalso;first|contradiction|omega))))
    refine At.again (i + 1) (by omega) ?_ ⟨?_, ?_, rfl, trivial⟩ (fun w' hw' => hw') (by omega)
    · (repeat (first | exact Out.refl _ _ | exact Out.mix | (apply Out.upd; (· exact rfl)) | (apply Out.updL; (· exact rfl)) | (apply Out.mixs; (· exact rfl))))
    · rw [htk]; rfl
    · rw [htk]; rfl
  have hie : i = p.R.length := by omega
  subst hie
  rw [List.take_length]
  show CW _ _ _ _ (updL (mix _ _ _) [(3, Value.int .i64 (twF p.R).1), (4, .int .i64 (twF p.R).2), (18, _)]) _
  repeat'(first|refine kv' ?_|apply jJ|refine jE' ?_|refine jp' ?_|(apply jc;kernel_rfl)|refine kg' ?_|refine kG' ?_|refine kB' fun _=>?_|refine kA' fun _=>?_|refine kK' fun _=>?_|refine kU' ?_|((first|refine kR' ?_ ?_|refine kQ' ?_ ?_);all_goals(intro hc;try simp only[hcs]at hc;try(exfalso;first|contradiction|omega))))
  apply CW.loop [7, 8, 34, 35, 36, 37, 38, 39, 40, 41, 42] (fun s : Cst => s.k ≤ p.R.length) (fun s => [(7, .slice s.a (ps0 s.k).length s.c), (34, .int .i64 (s.k : Int))])
    (fun s => St w NoF [ilK s.a s.c (ps0 s.k), .own b1 (.cells [Value.slice (some ⟨ba, oa, none⟩) p.R.length A.rc, .slice A.ga p.G.length A.gc].toArray 25 (0, 0)), rdA A.ga (gv p.G), rdA (some ⟨ba, oa, none⟩) (iv p.R)]) (fun s => p.R.length - s.k)
  · exact fun w' hw' => ⟨⟨0, none, 0⟩, by simp, ⟨rfl, rfl, trivial⟩, hw'.nilsl 3 1⟩
  rintro ⟨k, a2, c2⟩ g2 hk
  simp only at hk ⊢
  by_cases hlt : k < p.R.length
  · have hs8 := shl1 (k := k) (by omega)
    have hlk := ps0_len k
    have hsn := ps0_snoc k
    generalize ps0 k = L at hlk hsn ⊢
    repeat'(first|(apply Go.Hb.kK;(iterate 4 exact rfl);intro bs)|refine kv' ?_|apply jJ|refine jE' ?_|refine jp' ?_|(apply jc;kernel_rfl)|refine kg' ?_|refine kG' ?_|refine kB' fun _=>?_|refine kA' fun _=>?_|refine kK' fun _=>?_|refine kU' ?_|(apply addX;(iterate 2 exact rfl);(iterate 2(first|omega|(dsimp only;omega)));exact rfl)|(apply LR.append (xs := iv L) (news := [Value.int .i64 (IntKind.i64.wrap (1 * 2 ^ (min (k : Int).toNat IntKind.i64.bits)))]) (m := 1); (· exact rfl); (· exact rfl); (· intro a' c'; (repeat (first | exact sH _ _ _ | apply sT))); (· exact fun w' hw' => hw'.rd_of_blk (mH _ _)); (· exact fun hx => by cases hx); (· exact rfl); (· exact rfl); (· omega); (· unfold maxLen; omega); (· exact rfl); (intro a3 c3))|((first|refine kR' ?_ ?_|refine kQ' ?_ ?_);all_goals(intro hc;try simp only[hcs]at hc;try(exfalso;first|contradiction|omega))))
    refine At.again (⟨k + 1, a3, c3⟩ : Cst) (by simp only; omega) ?_ ⟨?_, rfl, trivial⟩ ?_ (by simp only; omega)
    · (repeat (first | exact Out.refl _ _ | exact Out.mix | (apply Out.upd; (· exact rfl)) | (apply Out.updL; (· exact rfl)) | (apply Out.mixs; (· exact rfl))))
    · simp only
      rw [hsn, List.length_append]
      rfl
    · intro w' hw'
      simp only
      rw [hsn, ← hs8]
      have e : ilK a3 c3 (L ++ [IntKind.i64.wrap (1 * 2 ^ (min (k : Int).toNat IntKind.i64.bits))]) = osl (.slice a3 (L.length + 1) c3) 3 1 (L.length + 1) (iv L ++ [Value.int .i64 (IntKind.i64.wrap (1 * 2 ^ (min (k : Int).toNat IntKind.i64.bits)))]) := by simp [ilK, iv]
      rw [e]
      exact hw'.sub subZ
  have hke : k = p.R.length := by omega
  subst hke
  repeat'(first|refine kv' ?_|apply jJ|refine jE' ?_|refine jp' ?_|(apply jc;kernel_rfl)|refine kg' ?_|refine kG' ?_|refine kB' fun _=>?_|refine kA' fun _=>?_|refine kK' fun _=>?_|refine kU' ?_|((first|refine kR' ?_ ?_|refine kQ' ?_ ?_);all_goals(intro hc;try simp only[hcs]at hc;try(exfalso;first|contradiction|omega))))
  have hp0 := ps0_len p.R.length
  refine CW_fact (φ := ∃ bx ox, a2 = some ⟨bx, ox, none⟩) (fun w1 hw1 => (ownsRow_rd (hw1.holds (ilK a2 c2 (ps0 p.R.length)) memZ)).form (fun e => by have := congrArg List.length e; simp only [iv_length, List.length_nil] at this; omega)) ?_
  rintro ⟨bx, ox, rfl⟩
  generalize hps : ps0 p.R.length = P0 at hp0 ⊢
  apply CW.loop [2, 3, 10, 11, 12, 13, 14, 46, 47, 48, 49, 50, 51, 52, 53, 54, 55, 56, 57, 58, 59, 60, 61, 62, 63, 64, 65, 66, 67, 68, 69, 70, 71, 72, 73, 74, 75, 76, 77, 78, 79, 80, 81, 82, 83, 84, 85, 86, 87, 88, 89, 90, 91, 92, 93, 94, 95, 96, 97, 98, 99, 100, 101, 102, 103, 104, 105, 106, 107, 108, 109, 110, 111, 112, 113, 114, 115, 116, 117, 118, 119, 120, 121, 122, 123, 124, 125, 126, 127, 128, 129, 130, 131, 132, 133, 134, 135, 136, 137, 138, 139, 140] (fun s : Nat × Int × List Int => s.1 ≤ p.G.length ∧ s.2.2.length = p.R.length ∧ gwAll p.R p.G (twF p.R).1 P0 = gwAll p.R (p.G.drop s.1) s.2.1 s.2.2) (fun s => [(3, Value.int .i64 s.2.1), (46, .int .i64 (s.1 : Int))])
    (fun s => St w NoF [osl (.slice (some ⟨bx, ox, none⟩) p.R.length c2) 3 1 p.R.length (iv s.2.2), .own b1 (.cells [Value.slice (some ⟨ba, oa, none⟩) p.R.length A.rc, .slice A.ga p.G.length A.gc].toArray 25 (0, 0)), rdA A.ga (gv p.G), rdA (some ⟨ba, oa, none⟩) (iv p.R)]) (fun s => p.G.length - s.1)
  · exact fun w' hw' => ⟨(0, (twF p.R).1, P0), ⟨Nat.zero_le _, hp0, rfl⟩, ⟨rfl, rfl, trivial⟩, by have h2 : St w NoF (osl (.slice (some ⟨bx, ox, none⟩) P0.length c2) 3 1 P0.length (iv P0) :: _) w' := hw'; rw [hp0] at h2; exact h2⟩
  rintro ⟨j, tw, ps⟩ g3 ⟨hj, hpl, hgw⟩
  simp only at hj hpl hgw ⊢
  rw [hgw]
  by_cases hjt : j < p.G.length
  · obtain ⟨bg, og, hga⟩ := hr.g.form (rows_ne gat_len (by omega) hjt)
    rw [hga]
    rw [List.drop_eq_getElem_cons hjt]
    obtain ⟨y, hy⟩ : ∃ y, p.G[j] = y := ⟨_, rfl⟩
    rw [hy]
    by_cases hok : (0 ≤ y.a ∧ y.a < y.b ∧ y.b < p.R.length) ∧ hasC tw y.n = true
    · obtain ⟨⟨ha0, hab, hbl⟩, hht⟩ := hok
      have hn8 : 1 ≤ y.n ∧ y.n ≤ 8 := by
        unfold hasC at hht
        rw [Bool.and_eq_true, decide_eq_true_eq] at hht
        omega
      obtain ⟨n, a, b, rfl⟩ : ∃ n a b : Nat, y = ⟨n, a, b⟩ := ⟨y.n.toNat, y.a.toNat, y.b.toNat, by
        obtain ⟨yn, ya, yb⟩ := y
        simp only at *
        rw [Int.toNat_of_nonneg (by omega), Int.toNat_of_nonneg (by omega), Int.toNat_of_nonneg (by omega)]⟩
      simp only at ha0 hab hbl hht hn8
      repeat'(first|(refine kA' fun bg2 => ?_)|refine kv' ?_|apply jJ|refine jE' ?_|refine jp' ?_|(apply jc;kernel_rfl)|refine kg' ?_|refine kG' ?_|refine kB' fun _=>?_|refine kA' fun _=>?_|refine kK' fun _=>?_|refine kU' ?_|(apply idxX;(iterate 2 exact rfl);(iterate 2(first|omega|(dsimp only;omega)));exact rfl)|(apply LR.ev; (· apply Ev.load_agg_at (cs := [Value.int .i64 (n : Int), .int .i64 (a : Int), .int .i64 (b : Int)]); (· exact rfl); (· exact rfl); (· intro w' hw'; have h9 := rd_row (f := Gat.cells) (l := p.G) (i := j) (q := (j : Int).toNat * 3) gat_len (hw'.rd_of memZ) hjt (by simp); rw [hy] at h9; exact h9)); (· exact rfl))|(apply kq; (· exact rfl); (· intro w1 h1; have hq := CallsTo.q (show CallsTo Try.prog 52 [.int .i64 tw, .int .i64 n] w1 _ from q23 tw n w1) h1; rw [hht] at hq; exact hq))|((first|refine kR' ?_ ?_|refine kQ' ?_ ?_);all_goals(intro hc;try simp only[hcs]at hc;try(exfalso;first|contradiction|omega))))
      apply CW.loop [2, 11, 12, 78, 79, 80, 81, 82, 83, 84, 85, 86, 87, 88, 89, 90, 91, 92, 93, 94, 95, 96, 97, 98] (fun i : Nat => i ≤ p.R.length ∧ ∀ k, k < i → hasC (p.R.getD k 0) n = decide ((k : Int) = a ∨ (k : Int) = b)) (fun i => [(78, .int .i64 (i : Int))])
        (fun _ => St w NoF [.own bg2 (.cells [Value.int .i64 n, .int .i64 a, .int .i64 b].toArray 34 (0, 0)), osl (.slice (some ⟨bx, ox, none⟩) p.R.length c2) 3 1 p.R.length (iv ps), .own b1 (.cells [Value.slice (some ⟨ba, oa, none⟩) p.R.length A.rc, .slice (some ⟨bg, og, none⟩) p.G.length A.gc].toArray 25 (0, 0)), rdA (some ⟨bg, og, none⟩) (gv p.G), rdA (some ⟨ba, oa, none⟩) (iv p.R)]) (fun i => p.R.length - i)
      · exact fun w' hw' => ⟨0, ⟨by omega, fun k hk => by omega⟩, ⟨rfl, trivial⟩, hw'⟩
      rintro i g4 ⟨hil, hev⟩
      by_cases hlt : i < p.R.length
      · repeat'(first|(apply CW.reg_heldC)|refine kv' ?_|apply jJ|refine jE' ?_|refine jp' ?_|(apply jc;kernel_rfl)|refine kg' ?_|refine kG' ?_|refine kB' fun _=>?_|refine kA' fun _=>?_|refine kK' fun _=>?_|refine kU' ?_|(apply idxX;(iterate 2 exact rfl);(iterate 2(first|omega|(dsimp only;omega)));exact rfl)|(apply LR.ev; (· apply Ev.load_rd; (· exact rfl); (· repeat (first | exact mH _ _ | apply mT)); (· exact iv_at (i := i) (by simp) (by omega))); (· exact rfl))|((first|refine kR' ?_ ?_|refine kQ' ?_ ?_);all_goals(intro hc;try simp only[hcs]at hc;try(exfalso;first|contradiction|omega))))
        all_goals (
          apply DW.quiet [0, 1, 2, 4, 5, 6, 7]
          · decide +kernel
          · first | exact fun _ h => h | exact fun _ h => St.sub h subZ
          repeat'(first|refine yv' ?_|refine uv' ?_|refine un' ?_|(refine us' ?_ ?_;all_goals(intro hc;try simp only[hcs]at hc;try(exfalso;first|contradiction|omega)))|apply QL.nil)
          all_goals (show DW _ _ _ _ _ _ _ _))
        all_goals (
          apply DW.loud 3
          · exact rfl
          · decide +kernel
          repeat'(first|refine kg' ?_|refine kG' ?_|apply kM|refine kv' ?_|refine kK' fun _=>?_|refine kU' ?_|refine kB' fun _=>?_|refine kA' fun _=>?_|(apply kq; (· exact rfl); (· intro w1 h1; show CallsTo Try.prog 52 [.int .i64 p.R[i], .int .i64 n] w1 _; exact CallsTo.q (q23 p.R[i] n w1) h1)))
          all_goals (refine At.stage_same (fun _ h => St.sub h subZ) ?_))
        all_goals (
          apply DW.quiet [8, 9, 10, 11, 12, 13, 14]
          · decide +kernel
          · first | exact fun _ h => h | exact fun _ h => St.sub h subZ
          repeat'(first|refine yv' ?_|refine uv' ?_|refine un' ?_|(refine us' ?_ ?_;all_goals(intro hc;try simp only[hcs]at hc;try(exfalso;first|contradiction|omega)))|apply QL.nil)
          all_goals (show DW _ _ _ _ _ _ _ _))
        all_goals (first | (apply DW.done_thn; (· decide +kernel)) | (apply DW.done; (· decide +kernel)))
        repeat'(first|refine kv' ?_|apply jJ|refine jE' ?_|refine jp' ?_|(apply jc;kernel_rfl)|refine kg' ?_|refine kG' ?_|refine kB' fun _=>?_|refine kA' fun _=>?_|refine kK' fun _=>?_|refine kU' ?_|(apply addX;(iterate 2 exact rfl);(iterate 2(first|omega|(dsimp only;omega)));exact rfl)|((first|refine kR' ?_ ?_|refine kQ' ?_ ?_);all_goals(intro hc;try simp only[hcs]at hc;try(exfalso;first|contradiction|omega))))
        all_goals (first
          | ((apply ret1; (· exact rfl); intro w' hS)
             have hne : ¬ (hasC p.R[i] (n : Int) = decide ((i : Int) = a ∨ (i : Int) = b)) := by clear hev hgw hht hS hm; intro e; simp_all
             rw [gw_bad2 hlt (by rw [getD_nat _ hlt]; exact hne)]
             exact ⟨rfl, hS.toKeep⟩)
          | (have hye : hasC p.R[i] (n : Int) = decide ((i : Int) = a ∨ (i : Int) = b) := by clear hev hgw hht hm; simp_all
             refine At.again (i + 1) ⟨by omega, fun k hk => ?_⟩ ?_ ⟨rfl, trivial⟩ (fun w' hw' => hw') (by omega)
             · by_cases hki : k = i
               · subst hki; rw [getD_nat _ hlt]; exact hye
               · exact hev k (by omega)
             · (repeat (first | exact Out.refl _ _ | exact Out.mix | (apply Out.upd; (· exact rfl)) | (apply Out.updL; (· exact rfl)) | (apply Out.mixs; (· exact rfl))))
             ))
      have hie : i = p.R.length := by omega
      subst hie
      have hs1 := shl1 (k := n) (by omega)
      have hst := shr1 (ps.getD a 0) (k := b) (by omega)
      rw [getD_nat _ (by omega)] at hst
      repeat'(first|(apply CW.reg_heldC)|refine kv' ?_|apply jJ|refine jE' ?_|refine jp' ?_|(apply jc;kernel_rfl)|refine kg' ?_|refine kG' ?_|refine kB' fun _=>?_|refine kA' fun _=>?_|refine kK' fun _=>?_|refine kU' ?_|((first|refine kR' ?_ ?_|refine kQ' ?_ ?_);all_goals(intro hc;try simp only[hcs]at hc;try(exfalso;first|contradiction|omega))))
      all_goals (
        apply DW.quiet [0, 1, 2, 3, 4, 5, 6, 7, 8, 9]
        · decide +kernel
        · first | exact fun _ h => h | exact fun _ h => St.sub h subZ
        repeat'(first|refine yv' ?_|(apply QL.ev; (· exact rfl); (· first | (apply Ev.indexAddr; (· exact rfl); (· exact rfl); (· omega); (· omega)) | (apply Ev.load_osl; (· exact rfl); (· (repeat (first | exact mH _ _ | apply mT))); (· exact iv_at (l := ps) (i := a) (by simp) (by omega)))); (· exact rfl))|refine uv' ?_|refine un' ?_|(refine us' ?_ ?_;all_goals(intro hc;try simp only[hcs]at hc;try(exfalso;first|contradiction|omega)))|apply QL.nil)
        all_goals (show DW _ _ _ _ _ _ _ _))
      all_goals (first | (apply DW.done_thn; (· decide +kernel)) | (apply DW.done; (· decide +kernel)))
      rw [hst]
      repeat'(first|refine kv' ?_|apply jJ|refine jE' ?_|refine jp' ?_|(apply jc;kernel_rfl)|refine kg' ?_|refine kG' ?_|refine kB' fun _=>?_|refine kA' fun _=>?_|refine kK' fun _=>?_|refine kU' ?_|(apply idxX;(iterate 2 exact rfl);(iterate 2(first|omega|(dsimp only;omega)));exact rfl)|(apply LR.ev; (· apply Ev.load_osl; (· exact rfl); (· repeat (first | exact mH _ _ | apply mT)); (· first | (refine iv_at (l := ps) (i := a) ?_ ?_; (· simp; done); (· omega)) | (refine iv_at (l := ps) (i := b) ?_ ?_; (· simp; done); (· omega)))); (· exact rfl))|((first|refine kR' ?_ ?_|refine kQ' ?_ ?_);all_goals(intro hc;try simp only[hcs]at hc;try(exfalso;first|contradiction|omega))))
      · (apply ret1; (· exact rfl); intro w' hS)
        rw [gw_bad3 (by show tb (ps.getD (a : Int).toNat 0) (b : Int).toNat = true; rw [Int.toNat_natCast, Int.toNat_natCast, getD_nat _ (by omega)]; assumption)]
        exact ⟨rfl, hS.toKeep⟩
      have htb : tb ps[a] b = false := by assumption
      obtain ⟨gg, hgg⟩ : ∃ gg : Gat, gg = ⟨n, a, b⟩ := ⟨_, rfl⟩
      have hbo : orI .i64 ps[a] ps[b] = bothG ps gg := by
        rw [hgg]
        unfold bothG
        show _ = orI .i64 (ps.getD (a : Int).toNat 0) (ps.getD (b : Int).toNat 0)
        rw [Int.toNat_natCast, Int.toNat_natCast, getD_nat _ (by omega), getD_nat _ (by omega)]
      rw [hbo]
      repeat'(first|refine kv' ?_|apply jJ|refine jE' ?_|refine jp' ?_|(apply jc;kernel_rfl)|refine kg' ?_|refine kG' ?_|refine kB' fun _=>?_|refine kA' fun _=>?_|refine kK' fun _=>?_|refine kU' ?_|((first|refine kR' ?_ ?_|refine kQ' ?_ ?_);all_goals(intro hc;try simp only[hcs]at hc;try(exfalso;first|contradiction|omega))))
      apply CW.loop [14, 127, 128, 129, 130, 131, 132, 133, 134, 135, 136, 137, 138, 139] (fun i : Nat => i ≤ p.R.length) (fun i => [(127, .int .i64 (i : Int))])
        (fun i => St w NoF [.own bg2 (.cells [Value.int .i64 n, .int .i64 a, .int .i64 b].toArray 34 (0, 0)), osl (.slice (some ⟨bx, ox, none⟩) p.R.length c2) 3 1 p.R.length (iv (psI ps gg i)), .own b1 (.cells [Value.slice (some ⟨ba, oa, none⟩) p.R.length A.rc, .slice (some ⟨bg, og, none⟩) p.G.length A.gc].toArray 25 (0, 0)), rdA (some ⟨bg, og, none⟩) (gv p.G), rdA (some ⟨ba, oa, none⟩) (iv p.R)]) (fun i => p.R.length - i)
      · exact fun w' hw' => ⟨0, by omega, ⟨rfl, trivial⟩, by rw [show psI ps gg 0 = ps by unfold psI; simp]; exact hw'⟩
      rintro i g5 hil
      by_cases hlt : i < p.R.length
      · have hsi := shr1 (bothG ps gg) (k := i) (by omega)
        have hset := psI_set ps gg (i := i) (by omega)
        have hpn := psI_len ps gg (i := i) (by omega)
        have hsi2 := decide_eq_true_iff (p := andI .i64 ((bothG ps gg).fdiv (2 ^ (min (i : Int).toNat IntKind.i64.bits))) 1 = 1)
        rw [hsi] at hsi2
        repeat'(first|refine kv' ?_|apply jJ|refine jE' ?_|refine jp' ?_|(apply jc;kernel_rfl)|refine kg' ?_|refine kG' ?_|refine kB' fun _=>?_|refine kA' fun _=>?_|refine kK' fun _=>?_|refine kU' ?_|(apply idxX;(iterate 2 exact rfl);(iterate 2(first|omega|(dsimp only;omega)));exact rfl)|((first|refine kR' ?_ ?_|refine kQ' ?_ ?_);all_goals(intro hc;try simp only[hcs]at hc;try(exfalso;first|contradiction|omega))))
        · have htt : tb (bothG ps gg) i = true := hsi2.2 (by assumption)
          rw [htt, if_pos rfl] at hset
          refine LR.store_obj (v := .int .i64 (bothG ps gg)) (z' := osl (.slice (some ⟨bx, ox, none⟩) p.R.length c2) 3 1 p.R.length (iv ((psI ps gg i).set i (bothG ps gg)))) rfl rfl (Sel.tail _ (Sel.head _ _ _)) rfl ?_ (osl.dep _ _ _ _ _) ?_
          · have st := Stores.osl (P := Try.prog) (T := 3) (q := 1) (b := bx) (o := ox) (i := (i : Int).toNat * 1) (n := p.R.length) (c := c2) (v := .int .i64 (bothG ps gg)) (vs := [.int .i64 (bothG ps gg)]) (xs := iv (psI ps gg i)) (E := 3) (sz := 1) inferInstance rfl rfl rfl (by simp; omega)
            rw [show (i : Int).toNat * 1 = i by omega] at st ⊢
            rwa [splice_iv _ _ _ (by omega)] at st
          repeat'(first|refine kv' ?_|apply jJ|refine jE' ?_|refine jp' ?_|(apply jc;kernel_rfl)|refine kg' ?_|refine kG' ?_|refine kB' fun _=>?_|refine kA' fun _=>?_|refine kK' fun _=>?_|refine kU' ?_|(apply addX;(iterate 2 exact rfl);(iterate 2(first|omega|(dsimp only;omega)));exact rfl)|((first|refine kR' ?_ ?_|refine kQ' ?_ ?_);all_goals(intro hc;try simp only[hcs]at hc;try(exfalso;first|contradiction|omega))))
          refine At.again (i + 1) (by omega) ?_ ⟨rfl, trivial⟩ (fun w' hw' => ?_) (by omega)
          · (repeat (first | exact Out.refl _ _ | exact Out.mix | (apply Out.upd; (· exact rfl)) | (apply Out.updL; (· exact rfl)) | (apply Out.mixs; (· exact rfl))))
          · rw [hset]; exact hw'
        · have htt : tb (bothG ps gg) i = false := by
            cases hx : tb (bothG ps gg) i with
            | false => rfl
            | true => exact absurd (hsi2.1 hx) (by assumption)
          rw [htt, if_neg (by simp)] at hset
          repeat'(first|refine kv' ?_|apply jJ|refine jE' ?_|refine jp' ?_|(apply jc;kernel_rfl)|refine kg' ?_|refine kG' ?_|refine kB' fun _=>?_|refine kA' fun _=>?_|refine kK' fun _=>?_|refine kU' ?_|(apply addX;(iterate 2 exact rfl);(iterate 2(first|omega|(dsimp only;omega)));exact rfl)|((first|refine kR' ?_ ?_|refine kQ' ?_ ?_);all_goals(intro hc;try simp only[hcs]at hc;try(exfalso;first|contradiction|omega))))
          refine At.again (i + 1) (by omega) ?_ ⟨rfl, trivial⟩ (fun w' hw' => ?_) (by omega)
          · (repeat (first | exact Out.refl _ _ | exact Out.mix | (apply Out.upd; (· exact rfl)) | (apply Out.updL; (· exact rfl)) | (apply Out.mixs; (· exact rfl))))
          · rw [hset]; exact hw'
      have hie : i = p.R.length := by omega
      subst hie
      repeat'(first|refine kv' ?_|apply jJ|refine jE' ?_|refine jp' ?_|(apply jc;kernel_rfl)|refine kg' ?_|refine kG' ?_|refine kB' fun _=>?_|refine kA' fun _=>?_|refine kK' fun _=>?_|refine kU' ?_|(apply addX;(iterate 2 exact rfl);(iterate 2(first|omega|(dsimp only;omega)));exact rfl)|((first|refine kR' ?_ ?_|refine kQ' ?_ ?_);all_goals(intro hc;try simp only[hcs]at hc;try(exfalso;first|contradiction|omega))))
      refine At.again (j + 1, twG tw gg, psG ps gg) ⟨by show j + 1 ≤ _; omega, by show (psG ps gg).length = _; rw [psG_len]; exact hpl, ?_⟩ ?_ ⟨?_, rfl, trivial⟩ (fun w' hw' => ?_) (by show p.G.length - (j + 1) < p.G.length - j; omega)
      · rw [← hgg]
        show (gwOk p.R tw ps gg && _) = _
        have hok : gwOk p.R tw ps gg = true := by
          unfold gwOk
          rw [hgg]
          have e1 : ((List.range p.R.length).all fun i => hasC (p.R.getD i 0) n == decide ((i : Int) = a ∨ (i : Int) = b)) = true := by
            rw [List.all_eq_true]
            intro k hk
            rw [beq_iff_eq]
            exact hev k (List.mem_range.1 hk)
          show (decide (0 ≤ (a : Int) ∧ (a : Int) < b ∧ (b : Int) < p.R.length) && (hasC tw n && ((List.range p.R.length).all fun i => hasC (p.R.getD i 0) n == decide ((i : Int) = a ∨ (i : Int) = b)) && !tb (ps.getD (a : Int).toNat 0) (b : Int).toNat)) = true
          rw [e1, hht, decide_eq_true ⟨ha0, hab, hbl⟩, Int.toNat_natCast, Int.toNat_natCast, getD_nat _ (by omega), htb]
          rfl
        rw [hok, Bool.true_and]
      · (repeat (first | exact Out.refl _ _ | exact Out.mix | (apply Out.upd; (· exact rfl)) | (apply Out.updL; (· exact rfl)) | (apply Out.mixs; (· exact rfl))))
      · show Value.int .i64 _ = Value.int .i64 (twG tw gg)
        unfold twG
        rw [hgg]
        show Value.int .i64 (andNotI .i64 tw (IntKind.i64.wrap (1 * 2 ^ (min (n : Int).toNat IntKind.i64.bits)))) = Value.int .i64 (andNotI .i64 tw (2 ^ (n : Int).toNat))
        rw [hs1, Int.toNat_natCast]
      · have e : psI ps gg p.R.length = psG ps gg := by
          unfold psI
          rw [← hpl, List.drop_length, List.append_nil, ← psG_len ps gg, List.take_length]
        rw [e] at hw'
        exact hw'.sub subZ
    · repeat'(first|refine kv' ?_|apply jJ|refine jE' ?_|refine jp' ?_|(apply jc;kernel_rfl)|refine kg' ?_|refine kG' ?_|refine kB' fun _=>?_|refine kA' fun _=>?_|refine kK' fun _=>?_|refine kU' ?_|(apply idxX;(iterate 2 exact rfl);(iterate 2(first|omega|(dsimp only;omega)));exact rfl)|(apply LR.ev; (· apply Ev.load_agg_at (cs := [Value.int .i64 y.n, .int .i64 y.a, .int .i64 y.b]); (· exact rfl); (· exact rfl); (· intro w' hw'; have h9 := rd_row (f := Gat.cells) (l := p.G) (i := j) (q := (j : Int).toNat * 3) gat_len (hw'.rd_of memZ) hjt (by simp); rw [hy] at h9; exact h9)); (· exact rfl))|(apply kq; (· exact rfl); (· intro w1 h1; exact CallsTo.q (show CallsTo Try.prog 52 [.int .i64 tw, .int .i64 y.n] w1 _ from q23 tw y.n w1) h1))|((first|refine kR' ?_ ?_|refine kQ' ?_ ?_);all_goals(intro hc;try simp only[hcs]at hc;try(exfalso;first|contradiction|omega))))
      all_goals (first
        | (exact (hok ⟨⟨by omega, by omega, by omega⟩, by assumption⟩).elim)
        | ((apply ret1; (· exact rfl); intro w' hS)
           rw [gw_bad hok]
           exact ⟨rfl, hS.toKeep⟩))
  · have hje : j = p.G.length := by omega
    subst hje
    rw [List.drop_length]
    repeat'(first|refine kv' ?_|apply jJ|refine jE' ?_|refine jp' ?_|(apply jc;kernel_rfl)|refine kg' ?_|refine kG' ?_|refine kB' fun _=>?_|refine kA' fun _=>?_|refine kK' fun _=>?_|refine kU' ?_|((first|refine kR' ?_ ?_|refine kQ' ?_ ?_);all_goals(intro hc;try simp only[hcs]at hc;try(exfalso;first|contradiction|omega))))
    (apply ret1; (· exact rfl); intro w' hS)
    exact ⟨rfl, hS.toKeep⟩
theorem m13 (p : Pln) (A : PlA) (w : World) (hr : PlR w p A) (hi : PlI p) : CallsTo Try.prog 13 [p.val A] w fun v w' => v = .int .i64 (if chkP p.R p.G then 0 else 230) ∧ Grew w w' := by
  refine go_in (n := 23) (pl_in hr) Try.func13 rfl rfl ?_
  have hrl := hi.rl
  unfold chkP
  by_cases hl : 1 ≤ p.R.length ∧ p.R.length ≤ 4
  · rw [decide_eq_true hl, Bool.true_and]
    cases hm : p.R.all membersC with
    | false =>
      repeat'(first|refine kv' ?_|apply jJ|refine jE' ?_|refine jp' ?_|(apply jc;kernel_rfl)|refine kg' ?_|refine kG' ?_|refine kB' fun _=>?_|refine kA' fun _=>?_|refine kK' fun _=>?_|refine kU' ?_|(apply kq; (· exact rfl); (· intro w1 h1; have hq := CallsTo.q (show CallsTo Try.prog 46 [p.val A] w1 _ from m46 p A w1 ⟨h1.rd_of memZ, h1.rd_of memZ⟩ hi) h1; rw [hm] at hq; exact hq))|((first|refine kR' ?_ ?_|refine kQ' ?_ ?_);all_goals(intro hc;try simp only[hcs]at hc;try(exfalso;first|contradiction|omega))))
      (apply ret1; (· exact rfl); intro w' hS)
      exact ⟨rfl, hS.toKeep⟩
    | true =>
      rw [Bool.true_and]
      repeat'(first|refine kv' ?_|apply jJ|refine jE' ?_|refine jp' ?_|(apply jc;kernel_rfl)|refine kg' ?_|refine kG' ?_|refine kB' fun _=>?_|refine kA' fun _=>?_|refine kK' fun _=>?_|refine kU' ?_|(apply kq; (· exact rfl); (· intro w1 h1; first | (have hq := CallsTo.q (show CallsTo Try.prog 46 [p.val A] w1 _ from m46 p A w1 ⟨h1.rd_of memZ, h1.rd_of memZ⟩ hi) h1; rw [hm] at hq; exact hq) | exact CallsTo.q (show CallsTo Try.prog 47 [p.val A] w1 _ from m47 p A w1 ⟨h1.rd_of memZ, h1.rd_of memZ⟩ hi hl.1 hl.2 hm) h1))|((first|refine kR' ?_ ?_|refine kQ' ?_ ?_);all_goals(intro hc;try simp only[hcs]at hc;try(exfalso;first|contradiction|omega))))
      all_goals (
        (apply ret1; (· exact rfl); intro w' hS)
        refine ⟨congrArg (Value.int .i64) ?_, hS.toKeep⟩
        simp_all)
  · rw [decide_eq_false hl, Bool.false_and, if_neg (by simp)]
    repeat'(first|refine kv' ?_|apply jJ|refine jE' ?_|refine jp' ?_|(apply jc;kernel_rfl)|refine kg' ?_|refine kG' ?_|refine kB' fun _=>?_|refine kA' fun _=>?_|refine kK' fun _=>?_|refine kU' ?_|(apply kq; (· exact rfl); (· intro w1 h1; exact CallsTo.q (show CallsTo Try.prog 46 [p.val A] w1 _ from m46 p A w1 ⟨h1.rd_of memZ, h1.rd_of memZ⟩ hi) h1))|((first|refine kR' ?_ ?_|refine kQ' ?_ ?_);all_goals(intro hc;try simp only[hcs]at hc;try(exfalso;first|contradiction|omega))))
    all_goals (
      (apply ret1; (· exact rfl); intro w' hS)
      exact ⟨rfl, hS.toKeep⟩)
end Go.Proofs.Ytgblmkpfkcibiaa

namespace Go.Proofs.Ytgblmkpfkcibiaa
open Go.Hb
attribute [local irreducible] LR CW At Ev thn blk finK noG again CallsTo DW QL dnext TW DP
set_option maxRecDepth 100000

end Go.Proofs.Ytgblmkpfkcibiaa

namespace Go.Proofs.Ytgblmkpfkcibiaa
open Go.Hb
attribute [local irreducible] LR CW At Ev thn blk finK noG again CallsTo DW QL dnext TW DP
set_option maxRecDepth 100000

end Go.Proofs.Ytgblmkpfkcibiaa

namespace Go.Proofs.Ytgblmkpfkcibiaa
open Go.Hb
attribute [local irreducible] LR CW At Ev thn blk finK noG again CallsTo DW QL dnext
set_option maxRecDepth 100000

def decs : Nat → List Int → List Int × Int × List Int
  | 0, l => ([], 0, l)
  | n + 1, l => if (dec l).2.2 ≠ 0 then ([], (dec l).2.2, l.drop (dec l).2.1) else
    ((((dec l).1 : Nat) : Int) :: (decs n (l.drop (dec l).2.1)).1, (decs n (l.drop (dec l).2.1)).2)
theorem Byt.drop {l : List Int} (h : Byt l) (n : Nat) : Byt (l.drop n) := fun b hb => h b (List.mem_of_mem_drop hb)
def pv (l : List Addr) : List Value := l.map fun x => .pointer (some x)
@[simp] theorem pv_length (l : List Addr) : (pv l).length = l.length := by simp [pv]
def plcOf (v : List Int) : Plc := ⟨v.getD 0 0, v.getD 1 0, v.getD 2 0, v.getD 3 0⟩
def rows : Nat → List Int → List Plc × Int × List Int
  | 0, l => ([], 0, l)
  | n + 1, l => if (decs 4 l).2.1 ≠ 0 then ([], (decs 4 l).2.1, (decs 4 l).2.2) else (plcOf (decs 4 l).1 :: (rows n (decs 4 l).2.2).1, (rows n (decs 4 l).2.2).2)
def places (l : List Int) : List Plc × Int :=
  if (dec l).2.2 ≠ 0 then ([], (dec l).2.2)
  else if 4 < (dec l).1 then ([], 5)
  else if (rows (dec l).1 (l.drop (dec l).2.1)).2.1 ≠ 0 then ([], (rows (dec l).1 (l.drop (dec l).2.1)).2.1)
  else if (charts (rows (dec l).1 (l.drop (dec l).2.1)).1).2 ≠ 0 ∨ 0 < (rows (dec l).1 (l.drop (dec l).2.1)).2.2.length then ([], 4)
  else ((rows (dec l).1 (l.drop (dec l).2.1)).1, 0)
def zz (k : Nat) : List Value := List.replicate k (.int .i64 0)
end Go.Proofs.Ytgblmkpfkcibiaa

namespace Go.Proofs.Ytgblmkpfkcibiaa
open Go.Hb
attribute [local irreducible] LR CW At Ev thn blk finK noG again CallsTo DW QL dnext
set_option maxRecDepth 100000

end Go.Proofs.Ytgblmkpfkcibiaa

namespace Go.Proofs.Ytgblmkpfkcibiaa
open Go.Hb
attribute [local irreducible] LR CW At Ev thn blk finK noG again CallsTo DW QL dnext
set_option maxRecDepth 100000

end Go.Proofs.Ytgblmkpfkcibiaa

namespace Go.Proofs.Ytgblmkpfkcibiaa
open Go.Hb
attribute [local irreducible] LR CW At Ev thn blk finK noG again CallsTo DW QL dnext
set_option maxRecDepth 100000

instance : MapOf Try.prog 152 .i64 .nilFunc := ⟨⟨3, 150, Try.underlying152, Try.underlying3, Try.zeroValue150⟩⟩
end Go.Proofs.Ytgblmkpfkcibiaa

namespace Go.Proofs.Ytgblmkpfkcibiaa
open Go.Hb
attribute [local irreducible] LR CW At Ev thn blk finK noG again CallsTo DW QL dnext
set_option maxRecDepth 100000

end Go.Proofs.Ytgblmkpfkcibiaa

namespace Go.Proofs.Ytgblmkpfkcibiaa
open Go.Hb
attribute [local irreducible] LR CW At Ev thn blk finK noG again CallsTo DW QL dnext
set_option maxRecDepth 100000

theorem front_perm {α : Type} : ∀ (L : List α) (i : Nat) (hi : i < L.length), L.Perm (L[i] :: L.eraseIdx i)
  | x :: r, 0, _ => List.Perm.refl _
  | x :: r, i + 1, hi => ((front_perm r i (by simpa using hi)).cons x).trans (List.Perm.swap _ _ _)
theorem front {w0 w : World} {F : Nat → Prop} {L L' : List Asrt} (h : St w0 F L w) (i : Nat) (hi : Nat.blt i L.length = true) (e : L[i]'(blt_lt hi) :: L.eraseIdx i = L') : St w0 F L' w := (h.perm (front_perm L i (blt_lt hi))).cast e
def T2 (bm : Nat) (hd : List Value) (vs : List Int) : Asrt := .own bm (.cells (hd ++ iv vs ++ zz (4 - vs.length) ++ [Value.slice none 0 0]).toArray 66 (0, 0))
def tail6 : List Value := [.bool false, .int .i64 0, .int .i64 0, .int .i64 0, .int .i64 0, .slice none 0 0]
def T1 (bm bs : Nat) (vs : List Int) : Asrt := both (.own bm (.cells (iv (vs.take 7) ++ zz (7 - vs.length) ++ tail6).toArray 66 (0, 0))) (.own bs (.cells [.int .i64 (vs.getD 7 0)].toArray 3 (0, 0)))

end Go.Proofs.Ytgblmkpfkcibiaa

namespace Go.Proofs.Ytgblmkpfkcibiaa
open Go.Hb
attribute [local irreducible] LR CW At Ev thn blk finK noG again CallsTo DW QL dnext
set_option maxRecDepth 100000

end Go.Proofs.Ytgblmkpfkcibiaa

namespace Go.Proofs.Ytgblmkpfkcibiaa
open Go.Hb
attribute [local irreducible] LR CW At Ev thn blk finK noG again CallsTo DW QL dnext
set_option maxRecDepth 100000

end Go.Proofs.Ytgblmkpfkcibiaa

namespace Go.Proofs.Ytgblmkpfkcibiaa
open Go.Hb
attribute [local irreducible] LR CW At Ev thn blk finK noG again CallsTo DW QL dnext
set_option maxRecDepth 100000

end Go.Proofs.Ytgblmkpfkcibiaa

namespace Go.Proofs.Ytgblmkpfkcibiaa
open Go.Hb
attribute [local irreducible] LR CW At Ev thn blk finK noG again CallsTo
set_option maxRecDepth 100000

end Go.Proofs.Ytgblmkpfkcibiaa

namespace Go.Proofs.Ytgblmkpfkcibiaa
open Go.Hb
attribute [local irreducible] LR CW At Ev thn blk finK noG again CallsTo DW QL dnext
set_option maxRecDepth 100000

end Go.Proofs.Ytgblmkpfkcibiaa
