/-
  Regions that draw their order, where operations may wait: each of those makes memory of its own, or only lets the world grow, and comes up at any time until its value is wanted. Conditions: none; nothing here speaks of one program.
-/
import Derived.Test.YtphcnaafhcfakaaRGNM1
import Derived.OpenShut

set_option linter.unusedSimpArgs false
set_option linter.unusedVariables false
namespace Go.Proofs.Ytphcnaafhcfakaa
open Go.Hb
attribute [local irreducible] LR CW At Ev thn blk finK noG again CallsTo
set_option maxRecDepth 100000

theorem c101 (br : Nat) (a : Option Addr) (c : Nat) (l : List Int) (w : World) (h : rrP 156 [] br a c l w) (hb : Byt l) (hm : l.length ≤ 281474976710656) :
    CallsTo Try.prog 120 [.pointer (some ⟨br, 0, none⟩)] w fun v w' => v = tup3 (dec l) ∧ Grew w w' := by
  refine go_in (n := 66) (rr_rd h) Try.func120 rfl rfl ?_
  repeat'(first|refine kv' ?_|apply jJ|refine jE' ?_|refine jp' ?_|(apply jc;kernel_rfl)|refine kg' ?_|refine kG' ?_|refine kB' fun _=>?_|refine kA' fun _=>?_|refine kK' fun _=>?_|refine kU' ?_|((first|refine kR' ?_ ?_|refine kQ' ?_ ?_);all_goals(intro hc;try simp only[hcs]at hc;try(exfalso;first|contradiction|omega))))
  apply CW.loop [2, 3, 4, 5, 6, 7, 8, 9, 10, 11, 12, 13, 14, 15, 16, 17, 18, 19, 20, 21, 22, 23, 24, 25, 26, 27, 28, 29, 30, 31, 32, 33, 34, 35, 36, 37, 38, 39, 40, 41, 42, 43, 44, 45, 46, 47, 48, 49, 50, 51, 52, 53, 54, 55, 56, 57, 58, 59, 60, 61, 62, 63, 64, 65] (fun s : Nat × Nat => s.1 ≤ l.length ∧ s.1 ≤ 8 ∧ s.2 < 128 ^ s.1 ∧ dec l = decF (8 - s.1) s.1 s.2 (l.drop s.1))
    (fun s => [(5, Value.int .i64 (s.2 : Int)), (6, Value.int .i64 (s.1 : Int))]) (fun s => St w NoF [rdA (some ⟨br, 0, none⟩) [.slice a l.length c], rdA a (bv l)]) (fun s => 8 - s.1)
  · exact fun w' hw' => ⟨(0, 0), ⟨by simp, by simp, by simp, rfl⟩, ⟨rfl, rfl, trivial⟩, hw'⟩
  rintro ⟨i, acc⟩ g ⟨hi, hi7, hacc, hd⟩
  simp only at hi hi7 hacc hd ⊢
  by_cases h8 : i = 8
  · subst h8
    repeat'(first|refine kv' ?_|apply jJ|refine jE' ?_|refine jp' ?_|(apply jc;kernel_rfl)|refine kg' ?_|refine kG' ?_|refine kB' fun _=>?_|refine kA' fun _=>?_|refine kK' fun _=>?_|refine kU' ?_|((first|refine kR' ?_ ?_|refine kQ' ?_ ?_);all_goals(intro hc;try simp only[hcs]at hc;try(exfalso;first|contradiction|omega))))
    (apply ret3; (· exact rfl); intro w' hS)
    exact ⟨by rw [hd]; rfl, hS.toKeep⟩
  by_cases hlt : i < l.length
  · obtain ⟨ba, oa, rfl⟩ := h.2.1.form (fun e => by have := congrArg List.length e; simp at this; subst this; simp at hlt)
    obtain ⟨hx0, hx1⟩ := hb _ (List.getElem_mem hlt)
    obtain ⟨x, hx⟩ : ∃ x : Nat, l[i] = (x : Int) := ⟨l[i].toNat, by omega⟩
    have hp := pow128_le (i := i) (by omega)
    have hab : acc < 72057594037927936 := by omega
    have hn : acc + x % 128 * 128 ^ i < 128 ^ (i + 1) := by
      have : x % 128 * 128 ^ i ≤ 127 * 128 ^ i := Nat.mul_le_mul_right _ (by omega)
      rw [Nat.pow_succ]; omega
    have hstep : dec l = if l[i] < 128 then (if (0 < i ∧ l[i] = 0) ∨ 9007199254740991 < acc + x % 128 * 128 ^ i then (0, 0, 4) else (acc + x % 128 * 128 ^ i, i + 1, 0)) else decF (7 - i) (i + 1) (acc + x % 128 * 128 ^ i) (l.drop (i + 1)) := by
      rw [hd, List.drop_eq_getElem_cons hlt, show 8 - i = (7 - i) + 1 by omega]
      have : l[i].toNat = x := by omega
      simp only [decF, this]
    have hmod : ((x : Int)).tmod 128 = ((x % 128 : Nat) : Int) := by rw [Int.tmod_eq_emod_of_nonneg (by omega)]; omega
    have hw64 : IntKind.i64.wrap l[i] = (x : Int) := by rw [hx, wrap_i64 (by omega) (by omega)]
    repeat'(first|refine kv' ?_|apply jJ|refine jE' ?_|refine jp' ?_|(apply jc;kernel_rfl)|refine kg' ?_|refine kG' ?_|refine kB' fun _=>?_|refine kA' fun _=>?_|refine kK' fun _=>?_|refine kU' ?_|(apply LR.ev; (· apply Ev.load_rd; (· exact rfl); (· repeat (first | exact mH _ _ | apply mT)); (· first | exact rfl | exact bv_at (i := i) (by omega) (by omega))); (· exact rfl))|(apply idxX;(iterate 2 exact rfl);(iterate 2(first|omega|(dsimp only;omega)));exact rfl)|(apply LR.ev; (· apply Ev.rem; (· exact rfl); (· exact rfl); (· first | decide | omega)); (· exact rfl))|((first|refine kR' ?_ ?_|refine kQ' ?_ ?_);all_goals(intro hc;try simp only[hcs]at hc;try(exfalso;first|contradiction|omega))))
    rw [hw64, hmod]
    apply CW.loop [7, 8, 29, 30, 31, 32, 33, 34, 35] (fun j : Nat => j ≤ i) (fun j => [(7, Value.int .i64 ((x % 128 * 128 ^ j : Nat) : Int)), (8, Value.int .i64 (j : Int))])
      (fun j => St w NoF [rdA (some ⟨br, 0, none⟩) [.slice (some ⟨ba, oa, none⟩) l.length c], rdA (some ⟨ba, oa, none⟩) (bv l)]) (fun j => i - j)
    · exact fun w' hw' => ⟨0, by omega, ⟨by simp; rfl, rfl, trivial⟩, hw'⟩
    intro j g2 hj
    have hpj : x % 128 * 128 ^ j ≤ 127 * 72057594037927936 := Nat.mul_le_mul (by omega) (pow128_le (by omega))
    by_cases hji : j < i
    · have hpj2 : x % 128 * 128 ^ (j + 1) ≤ 127 * 72057594037927936 := Nat.mul_le_mul (by omega) (pow128_le (by omega))
      have he : x % 128 * 128 ^ (j + 1) = x % 128 * 128 ^ j * 128 := by rw [Nat.pow_succ, Nat.mul_assoc]
      generalize x % 128 * 128 ^ (j + 1) = p2 at he hpj2
      repeat'(first|refine kv' ?_|apply jJ|refine jE' ?_|refine jp' ?_|(apply jc;kernel_rfl)|refine kg' ?_|refine kG' ?_|refine kB' fun _=>?_|refine kA' fun _=>?_|refine kK' fun _=>?_|refine kU' ?_|(apply mulX;(iterate 2 exact rfl);(iterate 2(first|omega|(dsimp only;omega)));exact rfl)|(apply addX;(iterate 2 exact rfl);(iterate 2(first|omega|(dsimp only;omega)));exact rfl)|((first|refine kR' ?_ ?_|refine kQ' ?_ ?_);all_goals(intro hc;try simp only[hcs]at hc;try(exfalso;first|contradiction|omega))))
      apply At.again (j + 1) (by omega)
      · (repeat (first | exact Out.refl _ _ | exact Out.mix | (apply Out.upd; (· exact rfl)) | (apply Out.updL; (· exact rfl)) | (apply Out.mixs; (· exact rfl))))
      · refine ⟨?_, rfl, trivial⟩
        show Value.int .i64 (((x % 128 * 128 ^ j : Nat) : Int) * 128) = _
        rw [Nat.pow_succ, ← Nat.mul_assoc]; simp
      · exact fun w' hw' => hw'
      · omega
    · obtain rfl : j = i := by omega
      generalize x % 128 * 128 ^ j = p at hn hstep hpj ⊢
      have hnb : acc + p < 9223372036854775808 := by
        have : 128 ^ (j + 1) ≤ 72057594037927936 := pow128_le (by omega)
        omega
      repeat'(first|refine kv' ?_|apply jJ|refine jE' ?_|refine jp' ?_|(apply jc;kernel_rfl)|refine kg' ?_|refine kG' ?_|refine kB' fun _=>?_|refine kA' fun _=>?_|refine kK' fun _=>?_|refine kU' ?_|(apply LR.ev; (· apply Ev.load_rd; (· exact rfl); (· repeat (first | exact mH _ _ | apply mT)); (· first | exact rfl | exact bv_at (i := j) (by omega) (by omega))); (· exact rfl))|(apply idxX;(iterate 2 exact rfl);(iterate 2(first|omega|(dsimp only;omega)));exact rfl)|(apply addX;(iterate 2 exact rfl);(iterate 2(first|omega|(dsimp only;omega)));exact rfl)|((first|refine kR' ?_ ?_|refine kQ' ?_ ?_);all_goals(intro hc;try simp only[hcs]at hc;try(exfalso;first|contradiction|omega))))
      any_goals (
        apply At.again (j + 1, acc + p) ⟨by show j + 1 ≤ l.length; omega, by show j + 1 ≤ 8; omega, hn, by show dec l = decF (8 - (j + 1)) (j + 1) (acc + p) (l.drop (j + 1)); rw [hstep, if_neg (by omega)]; congr 1; omega⟩
        · (repeat (first | exact Out.refl _ _ | exact Out.mix | (apply Out.upd; (· exact rfl)) | (apply Out.updL; (· exact rfl)) | (apply Out.mixs; (· exact rfl))))
        · exact ⟨rfl, rfl, trivial⟩
        · exact fun w' hw' => hw'
        · show 8 - (j + 1) < 8 - j; omega)
      all_goals (
        (apply ret3; (· exact rfl); intro w' hS)
        refine ⟨?_, hS.toKeep⟩
        rw [hstep]
        first
        | (rw [if_pos (by assumption), if_pos (by omega)]; rfl)
        | (rw [if_pos (by assumption), if_neg (by omega)]; rfl))
  · have hd2 : dec l = (0, 0, 3) := by
      rw [hd, List.drop_eq_nil_of_le (by omega)]
      obtain ⟨q, hq⟩ : ∃ q, 8 - i = q + 1 := ⟨7 - i, by omega⟩
      rw [hq]; rfl
    repeat'(first|refine kv' ?_|apply jJ|refine jE' ?_|refine jp' ?_|(apply jc;kernel_rfl)|refine kg' ?_|refine kG' ?_|refine kB' fun _=>?_|refine kA' fun _=>?_|refine kK' fun _=>?_|refine kU' ?_|(apply LR.ev; (· apply Ev.load_rd; (· exact rfl); (· repeat (first | exact mH _ _ | apply mT)); (· exact rfl)); (· exact rfl))|((first|refine kR' ?_ ?_|refine kQ' ?_ ?_);all_goals(intro hc;try simp only[hcs]at hc;try(exfalso;first|contradiction|omega))))
    (apply ret3; (· exact rfl); intro w' hS)
    exact ⟨by rw [hd2]; rfl, hS.toKeep⟩

theorem c99 (bw : Nat) (v : Value) (w : World) (h : w.heap[bw]? = some (.cells [v, .bool true].toArray 159 (0, 0))) : CallsTo Try.prog 121 [.pointer (some ⟨bw, 0, none⟩)] w fun u w' => u = .bool false ∧ Grew w w' := by
  refine go_in (n := 12) (St.rd1 (a := some ⟨bw, 0, none⟩) (xs := [v, .bool true]) (fun j u hj => ⟨_, rfl, by rw [addr_add, cell_own h]; simpa using hj⟩)) Try.func121 rfl rfl ?_
  repeat'(first|refine kv' ?_|apply jJ|refine jE' ?_|refine jp' ?_|(apply jc;kernel_rfl)|refine kg' ?_|refine kG' ?_|refine kB' fun _=>?_|refine kA' fun _=>?_|refine kK' fun _=>?_|refine kU' ?_|(apply LR.ev; (· apply Ev.load_rd; (· exact rfl); (· repeat (first | exact mH _ _ | apply mT)); (· exact rfl)); (· exact rfl))|((first|refine kR' ?_ ?_|refine kQ' ?_ ?_);all_goals(intro hc;try simp only[hcs]at hc;try(exfalso;first|contradiction|omega))))
  all_goals (
    (apply ret1; (· exact rfl); intro w' hS)
    exact ⟨rfl, hS.toKeep⟩)

theorem rr_hold {T : Nat} {ex : List Value} {w0 w : World} {F : Nat → Prop} {R : List Asrt} {br : Nat} {a : Option Addr} {c : Nat} {l : List Int} (h : St w0 F (rr1 T ex br a c l :: rr2 a l :: R) w) (hc : l.length ≤ c) (hz : a = none → c = 0) : rrP T ex br a c l w :=
  (rr_shut h hc hz).holds _ (List.Mem.head _)
theorem c68 (br : Nat) (a : Option Addr) (c : Nat) (l : List Int) (w : World) (h : rrP 159 [.bool true] br a c l w) : CallsTo Try.prog 118 [.pointer (some ⟨br, 0, none⟩)] w fun v w' => v = .int .i64 (l.length : Int) ∧ Grew w w' := by
  refine go_in (n := 10) (rr_rd h) Try.func118 rfl rfl ?_
  repeat'(first|refine kv' ?_|apply jJ|refine jE' ?_|refine jp' ?_|(apply jc;kernel_rfl)|refine kg' ?_|refine kG' ?_|refine kB' fun _=>?_|refine kA' fun _=>?_|refine kK' fun _=>?_|refine kU' ?_|(apply LR.ev; (· apply Ev.load_rd; (· exact rfl); (· repeat (first | exact mH _ _ | apply mT)); (· exact rfl)); (· exact rfl))|(apply LR.qcall; (· exact rfl); (· intro w1 h1; exact CallsTo.q (c99 br (.slice a l.length c) w1 (by have := (h1.toKeep.keep br (rr_live h br (.inl rfl)) (fun x => x)); rw [this]; exact h.1)) h1))|((first|refine kR' ?_ ?_|refine kQ' ?_ ?_);all_goals(intro hc;try simp only[hcs]at hc;try(exfalso;first|contradiction|omega))))
  (apply ret1; (· exact rfl); intro w' hS)
  exact ⟨rfl, hS.toKeep⟩
theorem c72 (br : Nat) (a : Option Addr) (c : Nat) (l : List Int) (w : World) (h : rrP 156 [] br a c l w) : CallsTo Try.prog 113 [.pointer (some ⟨br, 0, none⟩)] w fun v w' => v = .int .i64 (l.length : Int) ∧ Grew w w' := by
  refine go_in (n := 8) (rr_rd h) Try.func113 rfl rfl ?_
  repeat'(first|refine kv' ?_|apply jJ|refine jE' ?_|refine jp' ?_|(apply jc;kernel_rfl)|refine kg' ?_|refine kG' ?_|refine kB' fun _=>?_|refine kA' fun _=>?_|refine kK' fun _=>?_|refine kU' ?_|(apply LR.ev; (· apply Ev.load_rd; (· exact rfl); (· repeat (first | exact mH _ _ | apply mT)); (· exact rfl)); (· exact rfl))|((first|refine kR' ?_ ?_|refine kQ' ?_ ?_);all_goals(intro hc;try simp only[hcs]at hc;try(exfalso;first|contradiction|omega))))
  (apply ret1; (· exact rfl); intro w' hS)
  exact ⟨rfl, hS.toKeep⟩

theorem dec_le (l : List Int) : (dec l).2.1 ≤ 8 ∧ (dec l).2.1 ≤ l.length := by
  have := decF_bound 8 0 0 l
  unfold dec
  by_cases h : (decF 8 0 0 l).2.2 = 0
  · have := this.2 h; omega
  · have h2 : ∀ k i acc l, (decF k i acc l).2.2 ≠ 0 → (decF k i acc l).2.1 = 0 := by
      intro k
      induction k with
      | zero => intro i acc l _; rfl
      | succ k ih =>
        intro i acc l
        cases l with
        | nil => intro _; rfl
        | cons x r =>
          unfold decF
          split
          · split
            · intro _; rfl
            · intro h; simp at h
          · exact ih _ _ _
    have := h2 _ _ _ _ h; omega

theorem c73 (br : Nat) (a : Option Addr) (c : Nat) (l : List Int) (w : World) (h : rrP 159 [.bool true] br a c l w) (hb : Byt l) (hm : l.length ≤ 281474976710656) :
    CallsTo Try.prog 116 [.pointer (some ⟨br, 0, none⟩)] w fun v w' => ∃ a' c', v = .tuple [.int .i64 ((dec l).1 : Int), .int .i64 (dec l).2.2].toArray ∧ Step (rrA 159 [.bool true] br a c l) (rrA 159 [.bool true] br a' c' (l.drop (dec l).2.1)) w w' := by
  have hc := h.2.2.1
  have hz := h.2.2.2.1
  have hn := dec_le l
  refine go_in (n := 26) (rr_start h) Try.func116 rfl rfl ?_
  repeat'(first|refine kv' ?_|apply jJ|refine jE' ?_|refine jp' ?_|(apply jc;kernel_rfl)|refine kg' ?_|refine kG' ?_|refine kB' fun _=>?_|refine kA' fun _=>?_|refine kK' fun _=>?_|refine kU' ?_|(apply LR.qcall; (· exact rfl); (· intro w1 h1; first | exact CallsTo.q (c99 br (.slice a l.length c) w1 (h1.own_at (List.Mem.head _))) h1 | exact CallsTo.q (c100 _ _ _ _ w1 (rr_hold h1 hc hz) hb hm) h1))|(apply LR.ev; (· apply Ev.slice_lo; (· exact rfl); (· exact rfl); (· first | omega | (dsimp only; omega)); (· first | omega | (dsimp only; omega))); (· exact rfl))|((first|refine kR' ?_ ?_|refine kQ' ?_ ?_);all_goals(intro hc;try simp only[hcs]at hc;try(exfalso;first|contradiction|omega))))
  (apply ret2; (· exact rfl); intro w' hS)
  refine ⟨subA a c (dec l).2.1 1, c - (dec l).2.1, rfl, rr_end (R := []) ((rr_drop (n := (dec l).2.1) hS hc).cast ?_) (by simp; omega) (subA_none hz)⟩
  simp [rr1, splice]
theorem c70 (br : Nat) (a : Option Addr) (c : Nat) (l : List Int) (w : World) (h : rrP 156 [] br a c l w) (hb : Byt l) (hm : l.length ≤ 281474976710656) :
    CallsTo Try.prog 112 [.pointer (some ⟨br, 0, none⟩)] w fun v w' => ∃ a' c', v = .tuple [.int .i64 ((dec l).1 : Int), .int .i64 (dec l).2.2].toArray ∧ Step (rrA 156 [] br a c l) (rrA 156 [] br a' c' (l.drop (dec l).2.1)) w w' := by
  have hc := h.2.2.1
  have hz := h.2.2.2.1
  have hn := dec_le l
  refine go_in (n := 24) (rr_start h) Try.func112 rfl rfl ?_
  repeat'(first|refine kv' ?_|apply jJ|refine jE' ?_|refine jp' ?_|(apply jc;kernel_rfl)|refine kg' ?_|refine kG' ?_|refine kB' fun _=>?_|refine kA' fun _=>?_|refine kK' fun _=>?_|refine kU' ?_|(apply LR.qcall; (· exact rfl); (· intro w1 h1; exact CallsTo.q (c101 _ _ _ _ w1 (rr_hold h1 hc hz) hb hm) h1))|(apply LR.ev; (· apply Ev.slice_lo; (· exact rfl); (· exact rfl); (· first | omega | (dsimp only; omega)); (· first | omega | (dsimp only; omega))); (· exact rfl))|((first|refine kR' ?_ ?_|refine kQ' ?_ ?_);all_goals(intro hc;try simp only[hcs]at hc;try(exfalso;first|contradiction|omega))))
  (apply ret2; (· exact rfl); intro w' hS)
  refine ⟨subA a c (dec l).2.1 1, c - (dec l).2.1, rfl, rr_end (R := []) ((rr_drop (n := (dec l).2.1) hS hc).cast ?_) (by simp; omega) (subA_none hz)⟩
  simp [rr1, splice]
end Go.Proofs.Ytphcnaafhcfakaa

namespace Go.Proofs.Ytphcnaafhcfakaa
open Go.Hb
attribute [local irreducible] LR CW At Ev thn blk finK noG again CallsTo
set_option maxRecDepth 100000

theorem newB_rr {w0 w1 : World} {F : Nat → Prop} {L : List Asrt} {a : Option Addr} {c : Nat} {l : List Int} (h : St w0 F L w1) {w2 : World} (hn : NewSl w1 w2 (.slice a l.length c) 5 1 l.length (bv l)) : St w0 F (rr2 a l :: L) w2 := by
  refine h.push hn.grew (ownsRow_rd hn.own) (fun k hk => ?_) (rr2_dep _ _)
  obtain ⟨hne, ad, rfl, rfl⟩ := hk
  exact hn.own.lt _ rfl

theorem osl_rr {w0 w : World} {F : Nat → Prop} {R : List Asrt} {a : Option Addr} {c : Nat} {l : List Int} (h : St w0 F (osl (.slice a l.length c) 5 1 l.length (bv l) :: R) w) : St w0 F (rr2 a l :: R) w :=
  h.turn (Sel.head _ _ _) rfl (St.refl w _) (ownsRow_rd (h.holds _ (List.Mem.head _))) (fun k hk => .inl (St.osl_foot hk)) (rr2_dep _ _)
theorem c65 (a : Option Addr) (ca : Nat) (l : List Int) (w : World) (hr : Rd w a (bv l)) (hz : a = none → ca = 0) (hm : l.length ≤ 140737488355328) :
    CallsTo Try.prog 115 [.slice a l.length ca] w fun v w' => ∃ br a' c', v = .pointer (some ⟨br, 0, none⟩) ∧ New1 (rrA 159 [.bool true] br a' c' l) w w' := by
  refine go_in (n := 7) (St.rd1 hr) Try.func115 rfl rfl ?_
  repeat'(first|refine kv' ?_|apply jJ|refine jE' ?_|refine jp' ?_|(apply jc;kernel_rfl)|refine kg' ?_|refine kG' ?_|refine kB' fun _=>?_|refine kA' fun _=>?_|refine kK' fun _=>?_|refine kU' ?_|((first|refine kR' ?_ ?_|refine kQ' ?_ ?_);all_goals(intro hc;try simp only[hcs]at hc;try(exfalso;first|contradiction|omega))))
  apply LR.call
  · exact rfl
  intro w1 h1
  refine (c86 a ca l w1 (h1.rd_of (List.Mem.head _)) hz hm).mono ?_
  rintro v w2 ⟨a2, c2, rfl, hn⟩
  refine LR.back (newB_rr h1 hn) ?_
  have hnc := ownsRow_cap hn.own
  have hns := hn.some_of
  repeat'(first|refine kv' ?_|apply jJ|refine jE' ?_|refine jp' ?_|(apply jc;kernel_rfl)|refine kg' ?_|refine kG' ?_|refine kB' fun _=>?_|refine kA' fun _=>?_|refine kK' fun _=>?_|refine kU' ?_|((first|refine kR' ?_ ?_|refine kQ' ?_ ?_);all_goals(intro hc;try simp only[hcs]at hc;try(exfalso;first|contradiction|omega))))
  (apply ret1; (· exact rfl); intro w' hS)
  exact ⟨_, a2, c2, rfl, (rr_shut (hS.cast (by rfl)) hnc (fun e => (hns e).2)).new1 rfl⟩

theorem c69 (a : Option Addr) (ca : Nat) (l : List Int) (w : World) (hr : Rd w a (bv l)) (hz : a = none → ca = 0) (hm : l.length ≤ 140737488355328) :
    CallsTo Try.prog 111 [.slice a l.length ca] w fun v w' => ∃ br a' c', v = .pointer (some ⟨br, 0, none⟩) ∧ New1 (rrA 156 [] br a' c' l) w w' := by
  refine go_in (n := 16) (St.rd1 hr) Try.func111 rfl rfl ?_
  repeat'(first|refine kv' ?_|apply jJ|refine jE' ?_|refine jp' ?_|(apply jc;kernel_rfl)|refine kg' ?_|refine kG' ?_|refine kB' fun _=>?_|refine kA' fun _=>?_|refine kK' fun _=>?_|refine kU' ?_|(refine LR.append_nil (news := bv l) rfl rfl (fun w' hw' => hw'.rd_of (List.Mem.tail _ (List.Mem.head _))) (fun hx => ⟨hr.none_len hx, hz hx⟩) (by simp) (bv_one l) (by omega) (by unfold maxLen; omega) rfl ?_; intro a2 c2)|((first|refine kR' ?_ ?_|refine kQ' ?_ ?_);all_goals(intro hc;try simp only[hcs]at hc;try(exfalso;first|contradiction|omega))))
  (apply ret1; (· exact rfl); intro w' hS)
  have hnc := ownsRow_cap (hS.holds _ (List.Mem.head _) : World.ownsRow _ _ _ _ _ _ _)
  have hns := ownsRow_some (hS.holds _ (List.Mem.head _) : World.ownsRow _ _ _ _ _ _ _)
  exact ⟨_, a2, c2, rfl, (rr_shut ((osl_rr hS).swap.cast (by rfl)) hnc (fun e => (hns e).2)).new1 rfl⟩

def octs (most : Int) (l : List Int) : List Int × Int × List Int :=
  if (dec l).2.2 ≠ 0 then ([], (dec l).2.2, l)
  else if most < ((dec l).1 : Int) then ([], 5, l)
  else if ((l.length - (dec l).2.1 : Nat) : Int) < ((dec l).1 : Int) then ([], 3, l)
  else ((l.drop (dec l).2.1).take (dec l).1, 0, l.drop ((dec l).2.1 + (dec l).1))
def bsl (a : Option Addr) (c : Nat) (l : List Int) : Asrt := osl (.slice a l.length c) 5 1 l.length (bv l)

theorem rd_mid {w : World} {a : Option Addr} {c n k : Nat} {l : List Int} (h : Rd w a (bv l)) (hc : l.length ≤ c) : Rd w (subA a c n 1) (bv ((l.drop n).take k)) := by
  have := (h.drop (l := n) (sz := 1) (c := c) (fun e => by simp; omega)).take k
  simpa using this
theorem nilB {w0 w : World} {F : Nat → Prop} {L : List Asrt} (h : St w0 F L w) : St w0 F (bsl none 0 [] :: L) w :=
  h.push (Grew.refl w) (World.ownsRow_nil w 0 5 1) (fun k hk => by simp [bsl, osl, Asrt.foot, Value.ownBlock] at hk) (osl.dep _ _ _ _ _)

theorem octs_ok {most : Int} {l : List Int} (h1 : (dec l).2.2 = 0) (h2 : ((dec l).1 : Int) ≤ most) (h3 : ((dec l).1 : Int) ≤ (l.length : Int) - ((dec l).2.1 : Int)) : octs most l = ((l.drop (dec l).2.1).take (dec l).1, 0, l.drop ((dec l).2.1 + (dec l).1)) := by
  unfold octs; rw [if_neg (by simpa using h1), if_neg (by omega), if_neg (by omega)]
theorem octs_len {l : List Int} (h3 : ((dec l).1 : Int) ≤ (l.length : Int) - ((dec l).2.1 : Int)) : (((dec l).2.1 : Int) + ((dec l).1 : Int)).toNat - (((dec l).2.1 : Nat) : Int).toNat = ((l.drop (dec l).2.1).take (dec l).1).length := by
  simp; omega
theorem rr_drop2 {T : Nat} {ex : List Value} {w0 w : World} {F : Nat → Prop} {R : List Asrt} {br : Nat} {a : Option Addr} {c n : Nat} {l : List Int} {cs : List Value}
    (h : St w0 F (.own br (.cells cs.toArray T (0, 0)) :: rr2 a l :: R) w) (hcs : cs = .slice (subA a c n 1) (l.length - n) (c - n) :: ex) (hc : l.length ≤ c) (hz : a = none → c = 0) (hn : n ≤ l.length) :
    St w0 F (rrA T ex br (subA a c n 1) (c - n) (l.drop n) :: R) w := by
  subst hcs
  refine rr_shut ((rr_drop (n := n) h hc).cast ?_) (by simp; omega) (subA_none hz)
  simp [rr1]

theorem c67 (br : Nat) (a : Option Addr) (c : Nat) (l : List Int) (most : Int) (w : World) (h : rrP 159 [.bool true] br a c l w) (hb : Byt l) (hm : l.length ≤ 140737488355328) :
    CallsTo Try.prog 119 [.pointer (some ⟨br, 0, none⟩), .int .i64 most] w fun v w' => ∃ a' c' a2 c2, v = .tuple [.slice a2 (octs most l).1.length c2, .int .i64 (octs most l).2.1].toArray ∧
      St w (rrF br a l) [rrA 159 [.bool true] br a' c' (octs most l).2.2, bsl a2 c2 (octs most l).1] w' := by
  have hlc := h.2.2.1
  have hz := h.2.2.2.1
  have hn := dec_le l
  have hbd := decF_bound 8 0 0 l
  refine go_in (n := 58) (rr_start h) Try.func119 rfl rfl ?_
  by_cases h1 : (dec l).2.2 = 0
  · have hv : (dec l).1 ≤ 9007199254740991 := (hbd.2 h1).2
    repeat'(first|refine kv' ?_|apply jJ|refine jE' ?_|refine jp' ?_|(apply jc;kernel_rfl)|refine kg' ?_|refine kG' ?_|refine kB' fun _=>?_|refine kA' fun _=>?_|refine kK' fun _=>?_|refine kU' ?_|(apply LR.qcall; (· exact rfl); (· intro w1 h1; first | exact CallsTo.q (c99 br (.slice a l.length c) w1 (h1.own_at (List.Mem.head _))) h1 | exact CallsTo.q (c100 _ _ _ _ w1 (rr_hold h1 hlc hz) hb (by omega)) h1))|(apply LR.ev; (· apply Ev.slice_lohi; (· exact rfl); (· exact rfl); (· exact rfl); (· first | omega | (dsimp only; omega)); (· first | omega | (dsimp only; omega)); (· first | omega | (dsimp only; omega))); (· exact rfl))|(apply LR.ev; (· apply Ev.slice_lo; (· exact rfl); (· exact rfl); (· first | omega | (dsimp only; omega)); (· first | omega | (dsimp only; omega))); (· exact rfl))|(apply addX;(iterate 2 exact rfl);(iterate 2(first|omega|(dsimp only;omega)));exact rfl)|(apply subX;(iterate 2 exact rfl);(iterate 2(first|omega|(dsimp only;omega)));exact rfl)|((first|refine kR' ?_ ?_|refine kQ' ?_ ?_);all_goals(intro hc;try simp only[hcs]at hc;try(exfalso;first|contradiction|omega))))
    · (apply ret2; (· exact rfl); intro w' hS)
      have e : octs most l = ([], 5, l) := by unfold octs; rw [if_neg (by simpa using h1), if_pos (by assumption)]
      rw [e]
      exact ⟨a, c, none, 0, rfl, (nilB (rr_shut hS hlc hz)).swap⟩
    · (apply ret2; (· exact rfl); intro w' hS)
      have e : octs most l = ([], 3, l) := by unfold octs; rw [if_neg (by simpa using h1), if_neg (by omega), if_pos (by omega)]
      rw [e]
      exact ⟨a, c, none, 0, rfl, (nilB (rr_shut hS hlc hz)).swap⟩
    · rw [octs_len hc, octs_ok h1 (by assumption) hc]
      apply LR.call
      · exact rfl
      intro w1 h2
      refine (c86 _ _ ((l.drop (dec l).2.1).take (dec l).1) w1 (rd_mid (h2.holds _ (List.Mem.tail _ (List.Mem.head _))) hlc) (subA_none hz) (by simp; omega)).mono ?_
      rintro v w2 ⟨a2, c2, rfl, hnew⟩
      refine LR.back (h2.newSl hnew) ?_
      repeat'(first|refine kv' ?_|apply jJ|refine jE' ?_|refine jp' ?_|(apply jc;kernel_rfl)|refine kg' ?_|refine kG' ?_|refine kB' fun _=>?_|refine kA' fun _=>?_|refine kK' fun _=>?_|refine kU' ?_|(apply LR.ev; (· apply Ev.slice_lo; (· exact rfl); (· exact rfl); (· first | omega | (dsimp only; omega)); (· first | omega | (dsimp only; omega))); (· exact rfl))|(apply addX;(iterate 2 exact rfl);(iterate 2(first|omega|(dsimp only;omega)));exact rfl)|((first|refine kR' ?_ ?_|refine kQ' ?_ ?_);all_goals(intro hc;try simp only[hcs]at hc;try(exfalso;first|contradiction|omega))))
      (apply ret2; (· exact rfl); intro w' hS)
      have e3 : (((dec l).2.1 : Int) + ((dec l).1 : Int)).toNat = (dec l).2.1 + (dec l).1 := by omega
      rw [e3] at hS
      refine ⟨subA a c ((dec l).2.1 + (dec l).1) 1, c - ((dec l).2.1 + (dec l).1), a2, c2, rfl, ?_⟩
      refine ((rr_drop2 (n := (dec l).2.1 + (dec l).1) (ex := [.bool true]) (R := [_]) (St.rot hS) ?_ hlc hz (by omega)))
      simp [splice]
  · repeat'(first|refine kv' ?_|apply jJ|refine jE' ?_|refine jp' ?_|(apply jc;kernel_rfl)|refine kg' ?_|refine kG' ?_|refine kB' fun _=>?_|refine kA' fun _=>?_|refine kK' fun _=>?_|refine kU' ?_|(apply LR.qcall; (· exact rfl); (· intro w1 h1; first | exact CallsTo.q (c99 br (.slice a l.length c) w1 (h1.own_at (List.Mem.head _))) h1 | exact CallsTo.q (c100 _ _ _ _ w1 (rr_hold h1 hlc hz) hb (by omega)) h1))|((first|refine kR' ?_ ?_|refine kQ' ?_ ?_);all_goals(intro hc;try simp only[hcs]at hc;try(exfalso;first|contradiction|omega))))
    (apply ret2; (· exact rfl); intro w' hS)
    have e : octs most l = ([], (dec l).2.2, l) := by unfold octs; rw [if_pos h1]
    rw [e]
    exact ⟨a, c, none, 0, rfl, (nilB (rr_shut hS hlc hz)).swap⟩

theorem c71 (br : Nat) (a : Option Addr) (c : Nat) (l : List Int) (most : Int) (w : World) (h : rrP 156 [] br a c l w) (hb : Byt l) (hm : l.length ≤ 140737488355328) :
    CallsTo Try.prog 114 [.pointer (some ⟨br, 0, none⟩), .int .i64 most] w fun v w' => ∃ a' c' a2 c2, v = .tuple [.slice a2 (octs most l).1.length c2, .int .i64 (octs most l).2.1].toArray ∧
      St w (rrF br a l) [rrA 156 [] br a' c' (octs most l).2.2, bsl a2 c2 (octs most l).1] w' := by
  have hlc := h.2.2.1
  have hz := h.2.2.2.1
  have hn := dec_le l
  have hbd := decF_bound 8 0 0 l
  refine go_in (n := 54) (rr_start h) Try.func114 rfl rfl ?_
  by_cases h1 : (dec l).2.2 = 0
  · have hv : (dec l).1 ≤ 9007199254740991 := (hbd.2 h1).2
    repeat'(first|refine kv' ?_|apply jJ|refine jE' ?_|refine jp' ?_|(apply jc;kernel_rfl)|refine kg' ?_|refine kG' ?_|refine kB' fun _=>?_|refine kA' fun _=>?_|refine kK' fun _=>?_|refine kU' ?_|(apply LR.qcall; (· exact rfl); (· intro w1 h1; exact CallsTo.q (c101 _ _ _ _ w1 (rr_hold h1 hlc hz) hb (by omega)) h1))|(apply LR.ev; (· apply Ev.slice_lohi; (· exact rfl); (· exact rfl); (· exact rfl); (· first | omega | (dsimp only; omega)); (· first | omega | (dsimp only; omega)); (· first | omega | (dsimp only; omega))); (· exact rfl))|(apply LR.ev; (· apply Ev.slice_lo; (· exact rfl); (· exact rfl); (· first | omega | (dsimp only; omega)); (· first | omega | (dsimp only; omega))); (· exact rfl))|(apply addX;(iterate 2 exact rfl);(iterate 2(first|omega|(dsimp only;omega)));exact rfl)|(apply subX;(iterate 2 exact rfl);(iterate 2(first|omega|(dsimp only;omega)));exact rfl)|((first|refine kR' ?_ ?_|refine kQ' ?_ ?_);all_goals(intro hc;try simp only[hcs]at hc;try(exfalso;first|contradiction|omega))))
    · (apply ret2; (· exact rfl); intro w' hS)
      have e : octs most l = ([], 5, l) := by unfold octs; rw [if_neg (by simpa using h1), if_pos (by assumption)]
      rw [e]
      exact ⟨a, c, none, 0, rfl, (nilB (rr_shut hS hlc hz)).swap⟩
    · (apply ret2; (· exact rfl); intro w' hS)
      have e : octs most l = ([], 3, l) := by unfold octs; rw [if_neg (by simpa using h1), if_neg (by omega), if_pos (by omega)]
      rw [e]
      exact ⟨a, c, none, 0, rfl, (nilB (rr_shut hS hlc hz)).swap⟩
    · rw [octs_len hc, octs_ok h1 (by assumption) hc]
      refine LR.append_nil (news := bv ((l.drop (dec l).2.1).take (dec l).1)) rfl rfl (fun w' hw' => rd_mid (hw'.holds _ (List.Mem.tail _ (List.Mem.head _))) hlc) (fun e => ⟨?_, subA_none hz e⟩) (by simp) (bv_one _) (by simp; omega) (by unfold maxLen; simp; omega) rfl ?_
      · exact (rd_mid (n := (dec l).2.1) (k := (dec l).1) h.2.1 hlc).none_len e
      intro a2 c2
      repeat'(first|refine kv' ?_|apply jJ|refine jE' ?_|refine jp' ?_|(apply jc;kernel_rfl)|refine kg' ?_|refine kG' ?_|refine kB' fun _=>?_|refine kA' fun _=>?_|refine kK' fun _=>?_|refine kU' ?_|(apply LR.ev; (· apply Ev.slice_lo; (· exact rfl); (· exact rfl); (· first | omega | (dsimp only; omega)); (· first | omega | (dsimp only; omega))); (· exact rfl))|(apply addX;(iterate 2 exact rfl);(iterate 2(first|omega|(dsimp only;omega)));exact rfl)|((first|refine kR' ?_ ?_|refine kQ' ?_ ?_);all_goals(intro hc;try simp only[hcs]at hc;try(exfalso;first|contradiction|omega))))
      (apply ret2; (· exact rfl); intro w' hS)
      have e3 : (((dec l).2.1 : Int) + ((dec l).1 : Int)).toNat = (dec l).2.1 + (dec l).1 := by omega
      rw [e3] at hS
      refine ⟨subA a c ((dec l).2.1 + (dec l).1) 1, c - ((dec l).2.1 + (dec l).1), a2, c2, rfl, ?_⟩
      refine ((rr_drop2 (n := (dec l).2.1 + (dec l).1) (ex := []) (R := [_]) (St.rot hS) ?_ hlc hz (by omega)))
      simp [splice]
  · repeat'(first|refine kv' ?_|apply jJ|refine jE' ?_|refine jp' ?_|(apply jc;kernel_rfl)|refine kg' ?_|refine kG' ?_|refine kB' fun _=>?_|refine kA' fun _=>?_|refine kK' fun _=>?_|refine kU' ?_|(apply LR.qcall; (· exact rfl); (· intro w1 h1; exact CallsTo.q (c101 _ _ _ _ w1 (rr_hold h1 hlc hz) hb (by omega)) h1))|((first|refine kR' ?_ ?_|refine kQ' ?_ ?_);all_goals(intro hc;try simp only[hcs]at hc;try(exfalso;first|contradiction|omega))))
    (apply ret2; (· exact rfl); intro w' hS)
    have e : octs most l = ([], (dec l).2.2, l) := by unfold octs; rw [if_pos h1]
    rw [e]
    exact ⟨a, c, none, 0, rfl, (nilB (rr_shut hS hlc hz)).swap⟩
end Go.Proofs.Ytphcnaafhcfakaa

namespace Go.Proofs.Ytphcnaafhcfakaa
open Go.Hb
attribute [local irreducible] LR CW At Ev thn blk finK again CallsTo
set_option maxRecDepth 100000

def numB (x : Int) : Bool := decide (0 ≤ x) && decide (x ≤ 9007199254740991)
theorem c95 (x : Int) (w : World) : CallsTo Try.prog 77 [.int .i64 x] w fun v w' => v = .bool (numB x) ∧ Grew w w' := by
  refine go_in (n := 9) (St.refl _ NoF) Try.func77 rfl rfl ?_
  repeat'(first|refine kv' ?_|apply jJ|refine jE' ?_|refine jp' ?_|(apply jc;kernel_rfl)|refine kg' ?_|refine kG' ?_|refine kB' fun _=>?_|refine kA' fun _=>?_|refine kK' fun _=>?_|refine kU' ?_|((first|refine kR' ?_ ?_|refine kQ' ?_ ?_);all_goals(intro hc;try simp only[hcs]at hc;try(exfalso;first|contradiction|omega))))
  all_goals (
    (apply ret1; (· exact rfl); intro w' hS)
    refine ⟨congrArg Value.bool ?_, hS⟩
    simp [numB, *]; try omega)

def withinB (x a b : Int) : Bool := decide (a ≤ x) && decide (x ≤ b)
theorem c59 (x a b : Int) (w : World) : CallsTo Try.prog 69 [.int .i64 x, .int .i64 a, .int .i64 b] w fun v w' => v = .bool (withinB x a b) ∧ Grew w w' := by
  refine go_in (n := 15) (St.refl _ NoF) Try.func69 rfl rfl ?_
  repeat'(first|refine kv' ?_|apply jJ|refine jE' ?_|refine jp' ?_|(apply jc;kernel_rfl)|refine kg' ?_|refine kG' ?_|refine kB' fun _=>?_|refine kA' fun _=>?_|refine kK' fun _=>?_|refine kU' ?_|((first|refine kR' ?_ ?_|refine kQ' ?_ ?_);all_goals(intro hc;try simp only[hcs]at hc;try(exfalso;first|contradiction|omega))))
  all_goals (
    (apply ret1; (· exact rfl); intro w' hS)
    refine ⟨congrArg Value.bool ?_, hS⟩
    simp [withinB, *]; try omega)

def ringB (s r : Int) : Bool := decide (s = 0 ∧ r = 0) || (decide (0 < s) && numB s && decide (0 < r) && decide (r ≤ 8))
def ringE (s r : Int) : Int := if ringB s r then 0 else 2
theorem c81 (s r : Int) (w : World) : CallsTo Try.prog 78 [.agg [.int .i64 s, .int .i64 r].toArray] w fun v w' => v = .int .i64 (ringE s r) ∧ Grew w w' := by
  refine go_in (n := 26) (St.refl _ NoF) Try.func78 rfl rfl ?_
  repeat'(first|refine kv' ?_|apply jJ|refine jE' ?_|refine jp' ?_|(apply jc;kernel_rfl)|refine kg' ?_|refine kG' ?_|refine kB' fun _=>?_|refine kA' fun _=>?_|refine kK' fun _=>?_|refine kU' ?_|(apply kq;(·exact rfl);(·intro w1 h1;exact CallsTo.q (c95 _ w1) h1))|((first|refine kR' ?_ ?_|refine kQ' ?_ ?_);all_goals(intro hc;try simp only[hcs]at hc;try(exfalso;first|contradiction|omega))))
  all_goals (
    (apply ret1; (· exact rfl); intro w' hS)
    refine ⟨congrArg (Value.int .i64) ?_, hS.toKeep⟩
    simp_all [ringE, ringB]; try omega)

def keyB (t s r q : Int) : Bool := numB t && numB q && ringB s r
def keyE (t s r q : Int) : Int := if keyB t s r q then 0 else 2
theorem c60 (t s r q : Int) (w : World) : CallsTo Try.prog 57 [.agg [.int .i64 t, .int .i64 s, .int .i64 r, .int .i64 q].toArray] w fun v w' => v = .int .i64 (keyE t s r q) ∧ Grew w w' := by
  refine go_in (n := 16) (St.refl _ NoF) Try.func57 rfl rfl ?_
  repeat'(first|refine kv' ?_|apply jJ|refine jE' ?_|refine jp' ?_|(apply jc;kernel_rfl)|refine kg' ?_|refine kG' ?_|refine kB' fun _=>?_|refine kA' fun _=>?_|refine kK' fun _=>?_|refine kU' ?_|(apply kq;(·exact rfl);(·intro w1 h1;exact CallsTo.q (c95 _ w1) h1))|(apply kq;(·exact rfl);(·intro w1 h1;exact CallsTo.q (c81 _ _ w1) h1))|((first|refine kR' ?_ ?_|refine kQ' ?_ ?_);all_goals(intro hc;try simp only[hcs]at hc;try(exfalso;first|contradiction|omega))))
  all_goals (
    (apply ret1; (· exact rfl); intro w' hS)
    refine ⟨congrArg (Value.int .i64) ?_, hS.toKeep⟩
    simp_all [keyE, keyB, ringE]; try omega)
end Go.Proofs.Ytphcnaafhcfakaa

namespace Go.Proofs.Ytphcnaafhcfakaa
open Go.Hb
attribute [local irreducible] LR CW At Ev thn blk finK noG again CallsTo
set_option maxRecDepth 100000

structure Msg where
  kind : Int
  origin : Int
  life : Int
  id : Int
  part : Int
  parts : Int
  groups : Int
  safe : Bool
  stamp : Int
  rseq : Int
  rrep : Int
  kseq : Int
  body : List Int

def Msg.cells (m : Msg) (a : Option Addr) (c : Nat) : List Value :=
  [.int .i64 m.kind, .int .i64 m.origin, .int .i64 m.life, .int .i64 m.id, .int .i64 m.part, .int .i64 m.parts, .int .i64 m.groups, .bool m.safe, .int .i64 m.stamp, .int .i64 m.rseq, .int .i64 m.rrep, .int .i64 m.kseq, .slice a m.body.length c]
def Msg.val (m : Msg) (a : Option Addr) (c : Nat) : Value := .agg (m.cells a c).toArray

theorem numB_iff (x : Int) : numB x = decide (0 ≤ x ∧ x ≤ 9007199254740991) := by unfold numB; rw [Bool.eq_iff_iff]; simp
theorem withinB_iff (x a b : Int) : withinB x a b = decide (a ≤ x ∧ x ≤ b) := by unfold withinB; rw [Bool.eq_iff_iff]; simp

theorem c96 (x : Int) (w : World) : CallsTo Try.prog 94 [.int .i64 x] w fun v w' => v = .bool (numB x) ∧ Grew w w' := by
  refine go_in (n := 9) (St.refl _ NoF) Try.func94 rfl rfl ?_
  repeat'(first|refine kv' ?_|apply jJ|refine jE' ?_|refine jp' ?_|(apply jc;kernel_rfl)|refine kg' ?_|refine kG' ?_|refine kB' fun _=>?_|refine kA' fun _=>?_|refine kK' fun _=>?_|refine kU' ?_|((first|refine kR' ?_ ?_|refine kQ' ?_ ?_);all_goals(intro hc;try simp only[hcs]at hc;try(exfalso;first|contradiction|omega))))
  all_goals (
    (apply ret1; (· exact rfl); intro w' hS)
    refine ⟨congrArg Value.bool ?_, hS⟩
    simp [numB, *]; try omega)
theorem c62 (x : Int) (w : World) : CallsTo Try.prog 74 [.int .i64 x] w fun v w' => v = .bool (numB x) ∧ Grew w w' := by
  refine go_in (n := 9) (St.refl _ NoF) Try.func74 rfl rfl ?_
  repeat'(first|refine kv' ?_|apply jJ|refine jE' ?_|refine jp' ?_|(apply jc;kernel_rfl)|refine kg' ?_|refine kG' ?_|refine kB' fun _=>?_|refine kA' fun _=>?_|refine kK' fun _=>?_|refine kU' ?_|((first|refine kR' ?_ ?_|refine kQ' ?_ ?_);all_goals(intro hc;try simp only[hcs]at hc;try(exfalso;first|contradiction|omega))))
  all_goals (
    (apply ret1; (· exact rfl); intro w' hS)
    refine ⟨congrArg Value.bool ?_, hS⟩
    simp [numB, *]; try omega)
theorem c61 (x : Int) (w : World) : CallsTo Try.prog 73 [.int .i64 x] w fun v w' => v = .bool (withinB x 1 8) ∧ Grew w w' := by
  refine go_in (n := 9) (St.refl _ NoF) Try.func73 rfl rfl ?_
  repeat'(first|refine kv' ?_|apply jJ|refine jE' ?_|refine jp' ?_|(apply jc;kernel_rfl)|refine kg' ?_|refine kG' ?_|refine kB' fun _=>?_|refine kA' fun _=>?_|refine kK' fun _=>?_|refine kU' ?_|((first|refine kR' ?_ ?_|refine kQ' ?_ ?_);all_goals(intro hc;try simp only[hcs]at hc;try(exfalso;first|contradiction|omega))))
  all_goals (
    (apply ret1; (· exact rfl); intro w' hS)
    refine ⟨congrArg Value.bool ?_, hS⟩
    simp [withinB, *]; try omega)
theorem ringE_eq (s r : Int) : ringE s r = if (s = 0 ∧ r = 0) ∨ (0 < s ∧ s ≤ 9007199254740991 ∧ 0 < r ∧ r ≤ 8) then 0 else 2 := by
  unfold ringE ringB numB
  have : ((decide (s = 0 ∧ r = 0) || (decide (0 < s) && (decide (0 ≤ s) && decide (s ≤ 9007199254740991)) && decide (0 < r) && decide (r ≤ 8))) = true) ↔ ((s = 0 ∧ r = 0) ∨ (0 < s ∧ s ≤ 9007199254740991 ∧ 0 < r ∧ r ≤ 8)) := by
    simp; omega
  by_cases h : (s = 0 ∧ r = 0) ∨ (0 < s ∧ s ≤ 9007199254740991 ∧ 0 < r ∧ r ≤ 8)
  · rw [if_pos (this.2 h), if_pos h]
  · rw [if_neg (fun e => h (this.1 e)), if_neg h]
theorem c97 (s r : Int) (w : World) : CallsTo Try.prog 95 [.agg [.int .i64 s, .int .i64 r].toArray] w fun v w' => v = .int .i64 (ringE s r) ∧ Grew w w' := by
  rw [ringE_eq]
  refine go_in (n := 31) (St.refl _ NoF) Try.func95 rfl rfl ?_
  repeat'(first|refine kv' ?_|apply jJ|refine jE' ?_|refine jp' ?_|(apply jc;kernel_rfl)|refine kg' ?_|refine kG' ?_|refine kB' fun _=>?_|refine kA' fun _=>?_|refine kK' fun _=>?_|refine kU' ?_|(apply kq;(·exact rfl);(·intro w1 h1;exact CallsTo.q (c96 _ w1) h1))|((first|refine kR' ?_ ?_|refine kQ' ?_ ?_);all_goals(intro hc;try simp only[hcs]at hc;try(exfalso;first|contradiction|omega))))
  all_goals (
    (apply ret1; (· exact rfl); intro w' hS)
    refine ⟨congrArg (Value.int .i64) ?_, hS.toKeep⟩
    try simp only [numB_iff, decide_eq_true_eq, decide_eq_false_iff_not] at *
    first | rw [if_pos (by omega)] | rw [if_neg (by omega)])
theorem c63 (t s r q : Int) (w : World) : CallsTo Try.prog 75 [.agg [.int .i64 t, .int .i64 s, .int .i64 r, .int .i64 q].toArray] w fun v w' => v = .int .i64 (keyE t s r q) ∧ Grew w w' := by
  refine go_in (n := 16) (St.refl _ NoF) Try.func75 rfl rfl ?_
  repeat'(first|refine kv' ?_|apply jJ|refine jE' ?_|refine jp' ?_|(apply jc;kernel_rfl)|refine kg' ?_|refine kG' ?_|refine kB' fun _=>?_|refine kA' fun _=>?_|refine kK' fun _=>?_|refine kU' ?_|(apply kq;(·exact rfl);(·intro w1 h1;exact CallsTo.q (c96 _ w1) h1))|(apply kq;(·exact rfl);(·intro w1 h1;exact CallsTo.q (c97 _ _ w1) h1))|((first|refine kR' ?_ ?_|refine kQ' ?_ ?_);all_goals(intro hc;try simp only[hcs]at hc;try(exfalso;first|contradiction|omega))))
  all_goals (
    (apply ret1; (· exact rfl); intro w' hS)
    refine ⟨congrArg (Value.int .i64) ?_, hS.toKeep⟩
    simp_all [keyE, keyB, ringE]; try omega)

def plainB (m : Msg) : Bool := decide (m.life = 0 ∧ m.part = 0 ∧ m.parts = 0 ∧ m.groups = 0 ∧ m.safe = false)
theorem c103 (m : Msg) (a : Option Addr) (c : Nat) (w : World) : CallsTo Try.prog 108 [m.val a c] w fun v w' => v = .bool (plainB m) ∧ Grew w w' := by
  obtain ⟨kd, og, lf, idn, pt, pts, gr, sf, st, rs, rr, ks, bd⟩ := m
  unfold plainB
  cases sf
  all_goals (
    refine go_in (n := 26) (St.refl _ NoF) Try.func108 rfl rfl ?_
    repeat'(first|refine kv' ?_|apply jJ|refine jE' ?_|refine jp' ?_|(apply jc;kernel_rfl)|refine kg' ?_|refine kG' ?_|refine kB' fun _=>?_|refine kA' fun _=>?_|refine kK' fun _=>?_|refine kU' ?_|((first|refine kR' ?_ ?_|refine kQ' ?_ ?_);all_goals(intro hc;try simp only[hcs]at hc;try(exfalso;first|contradiction|omega))))
    all_goals (apply ret1; (· exact rfl); intro w' hS; refine ⟨congrArg Value.bool ?_, hS.toKeep⟩; rw [Bool.eq_iff_iff]; (try simp only [decide_eq_true_eq, Bool.not_eq_true', decide_eq_false_iff_not, Bool.false_eq_true, Bool.true_eq_false, true_iff, false_iff, iff_true, iff_false, reduceCtorEq, not_true_eq_false, not_false_eq_true, List.cons.injEq, and_true]); first | omega | (simp; done) | (simp; omega) | (simp_all; done))
    )
theorem c98 (m : Msg) (a : Option Addr) (c : Nat) (w : World) : CallsTo Try.prog 96 [m.val a c] w fun v w' => v = .bool (plainB m) ∧ Grew w w' := by
  obtain ⟨kd, og, lf, idn, pt, pts, gr, sf, st, rs, rr, ks, bd⟩ := m
  unfold plainB
  cases sf
  all_goals (
    refine go_in (n := 26) (St.refl _ NoF) Try.func96 rfl rfl ?_
    repeat'(first|refine kv' ?_|apply jJ|refine jE' ?_|refine jp' ?_|(apply jc;kernel_rfl)|refine kg' ?_|refine kG' ?_|refine kB' fun _=>?_|refine kA' fun _=>?_|refine kK' fun _=>?_|refine kU' ?_|((first|refine kR' ?_ ?_|refine kQ' ?_ ?_);all_goals(intro hc;try simp only[hcs]at hc;try(exfalso;first|contradiction|omega))))
    all_goals (apply ret1; (· exact rfl); intro w' hS; refine ⟨congrArg Value.bool ?_, hS.toKeep⟩; rw [Bool.eq_iff_iff]; (try simp only [decide_eq_true_eq, Bool.not_eq_true', decide_eq_false_iff_not, Bool.false_eq_true, Bool.true_eq_false, true_iff, false_iff, iff_true, iff_false, reduceCtorEq, not_true_eq_false, not_false_eq_true, List.cons.injEq, and_true]); first | omega | (simp; done) | (simp; omega) | (simp_all; done))
    )

theorem c59_t {x a b : Int} (h : a ≤ x ∧ x ≤ b) (w : World) : CallsTo Try.prog 69 [.int .i64 x, .int .i64 a, .int .i64 b] w fun v w' => v = .bool true ∧ Grew w w' := by
  have := c59 x a b w; rw [withinB_iff, decide_eq_true h] at this; exact this
theorem c59_f {x a b : Int} (h : ¬ (a ≤ x ∧ x ≤ b)) (w : World) : CallsTo Try.prog 69 [.int .i64 x, .int .i64 a, .int .i64 b] w fun v w' => v = .bool false ∧ Grew w w' := by
  have := c59 x a b w; rw [withinB_iff, decide_eq_false h] at this; exact this
def textB (m : Msg) : Bool := decide (1 ≤ m.parts ∧ m.parts ≤ 5 ∧ 0 ≤ m.part ∧ m.part ≤ m.parts - 1 ∧ 0 < m.groups ∧ 0 < m.life ∧ m.body.length ≤ 48)
theorem c90 (m : Msg) (a : Option Addr) (c : Nat) (w : World) : CallsTo Try.prog 88 [m.val a c] w fun v w' => v = .bool (textB m) ∧ Grew w w' := by
  obtain ⟨kd, og, lf, idn, pt, pts, gr, sf, st, rs, rr, ks, bd⟩ := m
  unfold textB
  by_cases h1 : 1 ≤ pts ∧ pts ≤ 5
  all_goals (
    refine go_in (n := 30) (St.refl _ NoF) Try.func88 rfl rfl ?_
    repeat'(first|refine kv' ?_|apply jJ|refine jE' ?_|refine jp' ?_|(apply jc;kernel_rfl)|refine kg' ?_|refine kG' ?_|refine kB' fun _=>?_|refine kA' fun _=>?_|refine kK' fun _=>?_|refine kU' ?_|(apply LR.qcall; (· exact rfl); (· intro w1 h1; first | exact CallsTo.q (c59_t (by omega) w1) h1 | exact CallsTo.q (c59_f (by omega) w1) h1 | exact CallsTo.q (c59 _ _ _ w1) h1))|(apply subX;(iterate 2 exact rfl);(iterate 2(first|omega|(dsimp only;omega)));exact rfl)|((first|refine kR' ?_ ?_|refine kQ' ?_ ?_);all_goals(intro hc;try simp only[hcs]at hc;try(exfalso;first|contradiction|omega))))
    all_goals try simp only [withinB_iff, decide_eq_true_eq, decide_eq_false_iff_not] at *
    all_goals (apply ret1; (· exact rfl); intro w' hS; refine ⟨congrArg Value.bool ?_, hS.toKeep⟩; rw [Bool.eq_iff_iff]; (try simp only [decide_eq_true_eq, Bool.not_eq_true', decide_eq_false_iff_not, Bool.false_eq_true, Bool.true_eq_false, true_iff, false_iff, iff_true, iff_false, reduceCtorEq, not_true_eq_false, not_false_eq_true, List.cons.injEq, and_true]); first | omega | (simp; done) | (simp; omega) | (simp_all; done))
    )
def emptyB (m : Msg) : Bool := plainB m && decide (m.id = 0 ∧ m.body.length = 0)
theorem c91 (m : Msg) (a : Option Addr) (c : Nat) (w : World) : CallsTo Try.prog 89 [m.val a c] w fun v w' => v = .bool (emptyB m) ∧ Grew w w' := by
  refine go_in (n := 16) (St.refl _ NoF) Try.func89 rfl rfl ?_
  repeat'(first|refine kv' ?_|apply jJ|refine jE' ?_|refine jp' ?_|(apply jc;kernel_rfl)|refine kg' ?_|refine kG' ?_|refine kB' fun _=>?_|refine kA' fun _=>?_|refine kK' fun _=>?_|refine kU' ?_|(apply kq;(·exact rfl);(·intro w1 h1;exact CallsTo.q (c103 m a c w1) h1))|((first|refine kR' ?_ ?_|refine kQ' ?_ ?_);all_goals(intro hc;try simp only[hcs]at hc;try(exfalso;first|contradiction|omega))))
  all_goals (
    (apply ret1; (· exact rfl); intro w' hS)
    refine ⟨congrArg Value.bool ?_, hS.toKeep⟩
    simp [emptyB, *]; try omega)
def wantB (m : Msg) : Bool := emptyB m && decide ([m.stamp, m.rseq, m.rrep, m.kseq] = [0, 0, 0, 0])
theorem c92 (m : Msg) (a : Option Addr) (c : Nat) (w : World) : CallsTo Try.prog 90 [m.val a c] w fun v w' => v = .bool (wantB m) ∧ Grew w w' := by
  refine go_in (n := 11) (St.refl _ NoF) Try.func90 rfl rfl ?_
  repeat'(first|refine kv' ?_|apply jJ|refine jE' ?_|refine jp' ?_|(apply jc;kernel_rfl)|refine kg' ?_|refine kG' ?_|refine kB' fun _=>?_|refine kA' fun _=>?_|refine kK' fun _=>?_|refine kU' ?_|(apply kq;(·exact rfl);(·intro w1 h1;exact CallsTo.q (c91 m a c w1) h1))|((first|refine kR' ?_ ?_|refine kQ' ?_ ?_);all_goals(intro hc;try simp only[hcs]at hc;try(exfalso;first|contradiction|omega))))
  all_goals (
    (apply ret1; (· exact rfl); intro w' hS)
    refine ⟨congrArg Value.bool ?_, hS.toKeep⟩
    simp [wantB, *]; try omega)

structure Plc where
  ring : Int
  seq : Int
  rep : Int
  members : Int
def Plc.cells (p : Plc) : List Value := [.int .i64 p.ring, .int .i64 p.seq, .int .i64 p.rep, .int .i64 p.members]
def Plc.val (p : Plc) : Value := .agg p.cells.toArray
def plcB (p : Plc) : Bool := decide (0 ≤ p.ring ∧ p.ring ≤ 3 ∧ ¬ (p.seq = 0 ∧ p.rep = 0) ∧ 0 < p.seq ∧ p.seq ≤ 9007199254740991 ∧ 0 < p.rep ∧ p.rep ≤ 8 ∧ 0 < p.members ∧ p.members < 512 ∧ p.members % 2 = 0)

theorem andNot510_small : ∀ x : Nat, x < 512 → (andNotI .i64 (x : Int) 510 = 0 ↔ x % 2 = 0) := by decide +kernel
theorem andNot510 (x : Int) (h0 : 0 < x) (h1 : x ≤ 9223372036854775807) : andNotI .i64 x 510 = 0 ↔ x < 512 ∧ x % 2 = 0 := by
  obtain ⟨n, rfl⟩ : ∃ n : Nat, x = (n : Int) := ⟨x.toNat, by omega⟩
  by_cases hn : n < 512
  · rw [andNot510_small n hn]; omega
  · refine ⟨fun h => ?_, fun h => by omega⟩
    exfalso
    unfold andNotI at h
    have hlt : n < 2 ^ 64 := by omega
    have e1 : (BitVec.ofInt IntKind.i64.bits (n : Int)) = BitVec.ofNat 64 n := rfl
    have e2 : (BitVec.ofInt IntKind.i64.bits (510 : Int)) = BitVec.ofNat 64 510 := rfl
    rw [e1, e2] at h
    have h2 : IntKind.i64.wrap (((BitVec.ofNat 64 n &&& ~~~ BitVec.ofNat 64 510).toNat : Nat) : Int) = 0 := h
    have hle : (BitVec.ofNat 64 n &&& ~~~ BitVec.ofNat 64 510).toNat ≤ n := by
      rw [BitVec.toNat_and, BitVec.toNat_ofNat, Nat.mod_eq_of_lt hlt]; exact Nat.and_le_left
    rw [wrap_i64 (by omega) (by omega)] at h2
    have hz : (BitVec.ofNat 64 n &&& ~~~ BitVec.ofNat 64 510) = 0#64 := by
      apply BitVec.eq_of_toNat_eq
      have : (BitVec.ofNat 64 n &&& ~~~ BitVec.ofNat 64 510).toNat = 0 := by omega
      rw [this]; rfl
    have hx : BitVec.ofNat 64 n = BitVec.ofNat 64 n &&& BitVec.ofNat 64 510 := by
      apply BitVec.eq_of_getLsbD_eq
      intro i hi
      have := congrArg (fun v : BitVec 64 => v.getLsbD i) hz
      simp only [BitVec.getLsbD_and, BitVec.getLsbD_not, BitVec.getLsbD_zero, hi, decide_true, Bool.true_and] at this
      rw [BitVec.getLsbD_and]
      cases h1 : (BitVec.ofNat 64 n).getLsbD i <;> cases h2 : (BitVec.ofNat 64 510).getLsbD i <;> simp [h1, h2] at this ⊢
    have h3 := congrArg BitVec.toNat hx
    rw [BitVec.toNat_and, BitVec.toNat_ofNat, BitVec.toNat_ofNat, Nat.mod_eq_of_lt hlt] at h3
    have : n &&& (510 % 2 ^ 64) ≤ 510 := Nat.and_le_right
    omega

def i64 (x : Int) : Prop := -9223372036854775808 ≤ x ∧ x ≤ 9223372036854775807
theorem ringE_zero (s r : Int) : (ringE s r = 0) ↔ ((s = 0 ∧ r = 0) ∨ (0 < s ∧ s ≤ 9007199254740991 ∧ 0 < r ∧ r ≤ 8)) := by
  rw [ringE_eq]; split <;> simp_all
theorem c76 (p : Plc) (w : World) (hm : i64 p.members) : CallsTo Try.prog 84 [p.val] w fun v w' => v = .bool (plcB p) ∧ Grew w w' := by
  obtain ⟨rg, sq, rp, mb⟩ := p
  unfold plcB
  unfold i64 at hm
  simp only at hm
  refine go_in (n := 29) (St.refl _ NoF) Try.func84 rfl rfl ?_
  repeat'(first|refine kv' ?_|apply jJ|refine jE' ?_|refine jp' ?_|(apply jc;kernel_rfl)|refine kg' ?_|refine kG' ?_|refine kB' fun _=>?_|refine kA' fun _=>?_|refine kK' fun _=>?_|refine kU' ?_|(apply kq;(·exact rfl);(·intro w1 h1;exact CallsTo.q (c59 _ _ _ w1) h1))|(apply kq;(·exact rfl);(·intro w1 h1;exact CallsTo.q (c81 _ _ w1) h1))|((first|refine kR' ?_ ?_|refine kQ' ?_ ?_);all_goals(intro hc;try simp only[hcs]at hc;try(exfalso;first|contradiction|omega))))
  all_goals try simp only [withinB_iff, decide_eq_true_eq, decide_eq_false_iff_not, ringE_zero, List.cons.injEq, and_true] at *
  all_goals (
    (apply ret1; (· exact rfl); intro w' hS)
    refine ⟨congrArg Value.bool ?_, hS.toKeep⟩
    first
    | (rw [Bool.eq_iff_iff]; simp only [decide_eq_true_eq, Bool.false_eq_true, false_iff]; rw [andNot510 mb (by omega) (by omega)]; omega)
    | (rw [Bool.eq_iff_iff]; simp only [decide_eq_true_eq, Bool.false_eq_true, false_iff]; omega))
theorem c75 (p : Plc) (w : World) (hm : i64 p.members) : CallsTo Try.prog 83 [p.val] w fun v w' => v = .bool (!plcB p) ∧ Grew w w' := by
  refine go_in (n := 6) (St.refl _ NoF) Try.func83 rfl rfl ?_
  repeat'(first|refine kv' ?_|apply jJ|refine jE' ?_|refine jp' ?_|(apply jc;kernel_rfl)|refine kg' ?_|refine kG' ?_|refine kB' fun _=>?_|refine kA' fun _=>?_|refine kK' fun _=>?_|refine kU' ?_|(apply LR.qcall; (· exact rfl); (· intro w1 h1; exact CallsTo.q (c76 p w1 hm) h1))|((first|refine kR' ?_ ?_|refine kQ' ?_ ?_);all_goals(intro hc;try simp only[hcs]at hc;try(exfalso;first|contradiction|omega))))
  all_goals (
    (apply ret1; (· exact rfl); intro w' hS)
    exact ⟨rfl, hS.toKeep⟩)
theorem c79 (p : Plc) (w : World) (hm : i64 p.members) : CallsTo Try.prog 101 [p.val] w fun v w' => v = .bool (plcB p) ∧ Grew w w' := by
  obtain ⟨rg, sq, rp, mb⟩ := p
  unfold plcB
  unfold i64 at hm
  simp only at hm
  refine go_in (n := 39) (St.refl _ NoF) Try.func101 rfl rfl ?_
  repeat'(first|refine kv' ?_|apply jJ|refine jE' ?_|refine jp' ?_|(apply jc;kernel_rfl)|refine kg' ?_|refine kG' ?_|refine kB' fun _=>?_|refine kA' fun _=>?_|refine kK' fun _=>?_|refine kU' ?_|(apply kq;(·exact rfl);(·intro w1 h1;exact CallsTo.q (c97 _ _ w1) h1))|(apply LR.ev; (· apply Ev.rem; (· exact rfl); (· exact rfl); (· first | decide | omega)); (· exact rfl))|((first|refine kR' ?_ ?_|refine kQ' ?_ ?_);all_goals(intro hc;try simp only[hcs]at hc;try(exfalso;first|contradiction|omega))))
  all_goals try simp only [decide_eq_true_eq, decide_eq_false_iff_not, ringE_zero, List.cons.injEq, and_true] at *
  all_goals (
    (apply ret1; (· exact rfl); intro w' hS)
    refine ⟨congrArg Value.bool ?_, hS.toKeep⟩
    first
    | (rw [Bool.eq_iff_iff]; simp only [decide_eq_true_eq, Bool.false_eq_true, false_iff]; rw [Int.tmod_eq_emod_of_nonneg (by omega)]; omega)
    | (rw [Bool.eq_iff_iff]; simp only [decide_eq_true_eq, Bool.false_eq_true, false_iff]; omega))
end Go.Proofs.Ytphcnaafhcfakaa

namespace Go.Proofs.Ytphcnaafhcfakaa
open Go.Hb
attribute [local irreducible] LR CW At Ev thn blk finK noG again CallsTo
set_option maxRecDepth 100000

def pcs (ps : List Plc) : List Value := ps.flatMap Plc.cells
theorem pcs_length (ps : List Plc) : (pcs ps).length = ps.length * 4 := by
  induction ps with
  | nil => rfl
  | cons p r ih => simp only [pcs, List.flatMap_cons, List.length_append, List.length_cons] at ih ⊢; rw [ih]; simp [Plc.cells]; omega
theorem pcs_get : ∀ (ps : List Plc) (i j : Nat) (v : Value) (h : i < ps.length), (ps[i].cells)[j]? = some v → (pcs ps)[i * 4 + j]? = some v
  | [], i, j, v, h, _ => by simp at h
  | p :: r, 0, j, v, h, hj => by
    have hl : j < 4 := by have := (List.getElem?_eq_some_iff.1 hj).1; simpa [Plc.cells] using this
    simp only [List.getElem_cons_zero] at hj
    simp only [pcs, List.flatMap_cons, Nat.zero_mul, Nat.zero_add]
    rw [List.getElem?_append_left (by simpa [Plc.cells] using hl)]; exact hj
  | p :: r, i + 1, j, v, h, hj => by
    simp only [List.getElem_cons_succ] at hj
    have ih := pcs_get r i j v (by simpa using h) hj
    simp only [pcs, List.flatMap_cons] at ih ⊢
    have hl : (Plc.cells p).length = 4 := rfl
    rw [List.getElem?_append_right (by rw [hl]; omega), hl, show (i + 1) * 4 + j - 4 = i * 4 + j by omega]; exact ih
theorem rd_plc {w : World} {b o : Nat} {ps : List Plc} (h : Rd w (some ⟨b, o, none⟩) (pcs ps)) {i q : Nat} (hi : i < ps.length) (hq : q = i * 4) : ∀ j v, (ps[i].cells)[j]? = some v → w.cell? ((⟨b, o + q, none⟩ : Addr).add j) = some v := by
  intro j v hj
  subst hq
  rw [addr_add, Nat.add_assoc]
  exact h.cell (pcs_get ps i j v hi hj)
theorem plc_cell {w : World} {b o q i : Nat} {ps : List Plc} {v : Value} (h : Rd w (some ⟨b, o, none⟩) (pcs ps)) (hi : i < ps.length) (j : Nat) (hj : (ps[i].cells)[j]? = some v) (hq : q = o + i * 4 + j) : w.cell? ⟨b, q, none⟩ = some v := by
  subst hq
  rw [Nat.add_assoc]
  exact h.cell (pcs_get ps i j v hi hj)
theorem pcs_ne {ps : List Plc} {i : Nat} (h : i < ps.length) : pcs ps ≠ [] := fun e => by have := congrArg List.length e; rw [pcs_length] at this; simp only [List.length_nil] at this; omega
def plcsI (ps : List Plc) : Prop := ∀ p ∈ ps, i64 p.ring ∧ i64 p.seq ∧ i64 p.rep ∧ i64 p.members

theorem c102 (a : Option Addr) (c : Nat) (ps : List Plc) (w : World) (hr : Rd w a (pcs ps)) (hm : ps.length ≤ 281474976710656) (hi64 : plcsI ps) :
    CallsTo Try.prog 105 [.slice a ps.length c, .func (.func 83) #[] #[]] w fun v w' => (∃ r : Int, v = .int .i64 r ∧ (0 ≤ r ↔ (ps.any fun p => !plcB p) = true)) ∧ Grew w w' := by
  refine go_in (n := 19) (St.rd1 hr) Try.func105 rfl rfl ?_
  repeat'(first|refine kv' ?_|apply jJ|refine jE' ?_|refine jp' ?_|(apply jc;kernel_rfl)|refine kg' ?_|refine kG' ?_|refine kB' fun _=>?_|refine kA' fun _=>?_|refine kK' fun _=>?_|refine kU' ?_|((first|refine kR' ?_ ?_|refine kQ' ?_ ?_);all_goals(intro hc;try simp only[hcs]at hc;try(exfalso;first|contradiction|omega))))
  apply CW.loop [4, 5, 8, 9, 10, 11, 12, 13, 14, 15, 16, 17, 18] (fun i : Nat => i ≤ ps.length ∧ ((ps.take i).any fun p => !plcB p) = false) (fun i : Nat => [(8, Value.int .i64 i)]) (fun i => St w NoF [rdA a (pcs ps)]) (fun i => ps.length - i)
  · exact fun w' hw' => ⟨0, ⟨by omega, by simp⟩, ⟨rfl, trivial⟩, hw'⟩
  intro i g ⟨hi, heq⟩
  by_cases hlt : i < ps.length
  · obtain ⟨ba, oa, rfl⟩ := hr.form (pcs_ne hlt)
    have hpi := hi64 _ (List.getElem_mem hlt)
    repeat'(first|refine kv' ?_|apply jJ|refine jE' ?_|refine jp' ?_|(apply jc;kernel_rfl)|refine kg' ?_|refine kG' ?_|refine kB' fun _=>?_|refine kA' fun _=>?_|refine kK' fun _=>?_|refine kU' ?_|(apply idxX;(iterate 2 exact rfl);(iterate 2(first|omega|(dsimp only;omega)));exact rfl)|(apply LR.ev; (· apply Ev.load_agg_at (cs := ps[i].cells); (· exact rfl); (· exact rfl); (· intro w' hw'; exact rd_plc (hw'.rd_of (List.Mem.head _)) hlt (by simp))); (· exact rfl))|(apply addX;(iterate 2 exact rfl);(iterate 2(first|omega|(dsimp only;omega)));exact rfl)|((first|refine kR' ?_ ?_|refine kQ' ?_ ?_);all_goals(intro hc;try simp only[hcs]at hc;try(exfalso;first|contradiction|omega))))
    apply LR.qcall_fn (g := 83)
    · exact rfl
    · exact rfl
    · intro w1 h1
      have hq := CallsTo.q (c75 ps[i] w1 hpi.2.2.2) h1
      show CallsTo Try.prog 83 [ps[i].val] w1 _
      exact hq
    repeat'(first|refine kv' ?_|apply jJ|refine jE' ?_|refine jp' ?_|(apply jc;kernel_rfl)|refine kg' ?_|refine kG' ?_|refine kB' fun _=>?_|refine kA' fun _=>?_|refine kK' fun _=>?_|refine kU' ?_|(apply addX;(iterate 2 exact rfl);(iterate 2(first|omega|(dsimp only;omega)));exact rfl)|((first|refine kR' ?_ ?_|refine kQ' ?_ ?_);all_goals(intro hc;try simp only[hcs]at hc;try(exfalso;first|contradiction|omega))))
    · (apply ret1; (· exact rfl); intro w' hS)
      refine ⟨⟨i, rfl, ?_⟩, hS.toKeep⟩
      simp only [Int.natCast_nonneg, true_iff]
      rw [List.any_eq_true]
      exact ⟨ps[i], List.getElem_mem hlt, by simpa using hc⟩
    · apply At.again (i + 1) ⟨by omega, by rw [List.take_succ_eq_append_getElem hlt, List.any_append, heq]; simpa using hc⟩
      · (repeat (first | exact Out.refl _ _ | exact Out.mix | (apply Out.upd; (· exact rfl)) | (apply Out.updL; (· exact rfl)) | (apply Out.mixs; (· exact rfl))))
      · exact ⟨rfl, trivial⟩
      · exact fun w' hw' => hw'
      · omega
  · repeat'(first|refine kv' ?_|apply jJ|refine jE' ?_|refine jp' ?_|(apply jc;kernel_rfl)|refine kg' ?_|refine kG' ?_|refine kB' fun _=>?_|refine kA' fun _=>?_|refine kK' fun _=>?_|refine kU' ?_|((first|refine kR' ?_ ?_|refine kQ' ?_ ?_);all_goals(intro hc;try simp only[hcs]at hc;try(exfalso;first|contradiction|omega))))
    (apply ret1; (· exact rfl); intro w' hS)
    rw [List.take_of_length_le (by omega)] at heq
    refine ⟨⟨-1, rfl, ?_⟩, hS.toKeep⟩
    rw [heq]; simp

theorem c74 (a : Option Addr) (c : Nat) (ps : List Plc) (w : World) (hr : Rd w a (pcs ps)) (hm : ps.length ≤ 281474976710656) (hi64 : plcsI ps) :
    CallsTo Try.prog 82 [.slice a ps.length c, .func (.func 83) #[] #[]] w fun v w' => v = .bool (ps.any fun p => !plcB p) ∧ Grew w w' := by
  refine go_in (n := 9) (St.rd1 hr) Try.func82 rfl rfl ?_
  repeat'(first|refine kv' ?_|apply jJ|refine jE' ?_|refine jp' ?_|(apply jc;kernel_rfl)|refine kg' ?_|refine kG' ?_|refine kB' fun _=>?_|refine kA' fun _=>?_|refine kK' fun _=>?_|refine kU' ?_|((first|refine kR' ?_ ?_|refine kQ' ?_ ?_);all_goals(intro hc;try simp only[hcs]at hc;try(exfalso;first|contradiction|omega))))
  apply LR.call
  · exact rfl
  intro w1 h1
  refine (c102 a c ps w1 (h1.rd_of (List.Mem.head _)) hm hi64).mono ?_
  rintro v w2 ⟨⟨r, rfl, hiff⟩, hg⟩
  refine LR.back (h1.grew hg) ?_
  repeat'(first|refine kv' ?_|apply jJ|refine jE' ?_|refine jp' ?_|(apply jc;kernel_rfl)|refine kg' ?_|refine kG' ?_|refine kB' fun _=>?_|refine kA' fun _=>?_|refine kK' fun _=>?_|refine kU' ?_|((first|refine kR' ?_ ?_|refine kQ' ?_ ?_);all_goals(intro hc;try simp only[hcs]at hc;try(exfalso;first|contradiction|omega))))
  (apply ret1; (· exact rfl); intro w' hS)
  refine ⟨congrArg Value.bool ?_, hS.toKeep⟩
  rw [Bool.eq_iff_iff, decide_eq_true_eq]; exact hiff

def incr : Int → List Plc → Bool
  | _, [] => true
  | last, p :: r => decide (last < p.ring) && incr p.ring r
def lastR (l : Int) (ps : List Plc) : Int := (ps.getLast?.map Plc.ring).getD l
theorem lastR_snoc (l : Int) (ps : List Plc) (p : Plc) : lastR l (ps ++ [p]) = p.ring := by simp [lastR]
theorem incr_snoc : ∀ (ps : List Plc) (l : Int) (p : Plc), incr l (ps ++ [p]) = (incr l ps && decide (lastR l ps < p.ring))
  | [], l, p => by simp only [List.nil_append, incr, lastR, List.getLast?_nil, Option.map_none, Option.getD_none, Bool.and_true, Bool.true_and]; rfl
  | q :: r, l, p => by
    simp only [List.cons_append, incr, incr_snoc r q.ring p, Bool.and_assoc]
    congr 2
    unfold lastR
    cases r with
    | nil => rfl
    | cons x y =>
      simp only [List.getLast?_cons_cons]
      cases hx : (x :: y).getLast? with
      | none => simp at hx
      | some z => rfl
theorem incr_append (ps qs : List Plc) (l : Int) (h : incr l (ps ++ qs) = true) : incr l ps = true := by
  induction ps generalizing l with
  | nil => rfl
  | cons p r ih =>
    simp only [List.cons_append, incr, Bool.and_eq_true] at h ⊢
    exact ⟨h.1, ih _ h.2⟩
def plcNums (p : Plc) : List Int := [p.ring, p.seq, p.rep, p.members]
def plcsBytes (ps : List Plc) : List Int := enc ps.length ++ ps.flatMap fun p => encs (plcNums p)
def charts (ps : List Plc) : List Int × Int :=
  if 4 < ps.length then ([], 5) else if (ps.any fun p => !plcB p) = true then ([], 2) else if incr (-1) ps = false then ([], 2) else (plcsBytes ps, 0)
theorem plcNums_ok {p : Plc} (h : plcB p = true) : ∀ x ∈ plcNums p, okN x := by
  unfold plcB at h
  rw [decide_eq_true_eq] at h
  intro x hx
  simp only [plcNums, List.mem_cons, List.not_mem_nil, or_false] at hx
  unfold okN
  rcases hx with rfl | rfl | rfl | rfl <;> omega
theorem any_false {ps : List Plc} (h : (ps.any fun p => !plcB p) = false) : ∀ p ∈ ps, plcB p = true := by
  intro p hp
  cases hx : plcB p with
  | true => rfl
  | false => rw [List.any_eq_false] at h; have := h p hp; simp [hx] at this

set_option maxHeartbeats 1000000 in
theorem c28 (a : Option Addr) (c : Nat) (ps : List Plc) (w : World) (hr : Rd w a (pcs ps)) (hm : ps.length ≤ 281474976710656) (hi64 : plcsI ps) :
    CallsTo Try.prog 67 [.slice a ps.length c] w fun v w' => ∃ a2 c2, v = .tuple [.slice a2 (charts ps).1.length c2, .int .i64 (charts ps).2].toArray ∧ NewSl w w' (.slice a2 (charts ps).1.length c2) 5 1 (charts ps).1.length (bv (charts ps).1) := by
  refine go_in (n := 55) (St.rd1 hr) Try.func67 rfl rfl ?_
  have nils : ∀ w', Grew w w' → NewSl w w' (.slice none 0 0) 5 1 0 (bv []) := fun w' hg => ⟨hg, World.ownsRow_nil _ _ _ _⟩
  repeat'(first|refine kv' ?_|apply jJ|refine jE' ?_|refine jp' ?_|(apply jc;kernel_rfl)|refine kg' ?_|refine kG' ?_|refine kB' fun _=>?_|refine kA' fun _=>?_|refine kK' fun _=>?_|refine kU' ?_|(apply LR.qcall; (· exact rfl); (· intro w1 h1; exact CallsTo.q (c74 a c ps w1 (h1.rd_of (List.Mem.head _)) hm hi64) h1))|((first|refine kR' ?_ ?_|refine kQ' ?_ ?_);all_goals(intro hc;try simp only[hcs]at hc;try(exfalso;first|contradiction|omega))))
  · (apply ret2; (· exact rfl); intro w' hS)
    have e : charts ps = ([], 5) := by unfold charts; rw [if_pos (by omega)]
    rw [e]
    exact ⟨none, 0, rfl, nils w' hS.toKeep⟩
  · (apply ret2; (· exact rfl); intro w' hS)
    have e : charts ps = ([], 2) := by unfold charts; rw [if_neg (by omega), if_pos hc]
    rw [e]
    exact ⟨none, 0, rfl, nils w' hS.toKeep⟩
  rename _ => hcp
  have hany := any_false hcp
  apply LR.call
  · exact rfl
  intro w1 h1
  refine (c53 w1).mono ?_
  rintro v w2 ⟨bw, rfl, hn⟩
  refine LR.back (h1.got hn (wrA_dep _ _ _ _)) ?_
  clear hn h1
  repeat'(first|refine kv' ?_|apply jJ|refine jE' ?_|refine jp' ?_|(apply jc;kernel_rfl)|refine kg' ?_|refine kG' ?_|refine kB' fun _=>?_|refine kA' fun _=>?_|refine kK' fun _=>?_|refine kU' ?_|((first|refine kR' ?_ ?_|refine kQ' ?_ ?_);all_goals(intro hc;try simp only[hcs]at hc;try(exfalso;first|contradiction|omega))))
  repeat'(first|refine kv' ?_|apply jJ|refine jE' ?_|refine jp' ?_|(apply jc;kernel_rfl)|refine kg' ?_|refine kG' ?_|refine kB' fun _=>?_|refine kA' fun _=>?_|refine kK' fun _=>?_|refine kU' ?_|(apply LR.call; (· exact rfl); (intro w1 h1; refine (c54 bw none _ 0 _ [] [(ps.length : Int)] w1 (h1.holds _ (List.Mem.tail _ (List.Mem.head _))) (h1.rd_of_blk (List.Mem.head _)) (fun k hk hk2 => h1.apart (List.Mem.head _) rfl k (by obtain ⟨_, ad, e, rfl⟩ := hk; cases e; rfl) hk2) (by simp) (by simp) (by simp [okN]; omega)).mono ?_; rintro v w2 ⟨a2, c2, rfl, st⟩; refine LR.back (h1.did (Sel.tail _ (Sel.head _ _ _)) rfl st (wrA_dep _ _ _ _)) ?_; clear st h1))|((first|refine kR' ?_ ?_|refine kQ' ?_ ?_);all_goals(intro hc;try simp only[hcs]at hc;try(exfalso;first|contradiction|omega))))
  have key : ∀ i, i ≤ ps.length → (enc ps.length ++ (ps.take i).flatMap fun p => encs (plcNums p)).length ≤ 9 + 36 * ps.length := by
    intro i hi
    have h1 : (enc ps.length).length ≤ 9 := encF_len 8 _
    have h2 : ∀ l : List Plc, (l.flatMap fun p => encs (plcNums p)).length ≤ 36 * l.length := by
      intro l
      induction l with
      | nil => simp
      | cons p r ih =>
        have := encs_len (plcNums p)
        simp only [List.flatMap_cons, List.length_append, List.length_cons]
        have e : (plcNums p).length = 4 := rfl
        omega
    have h3 := h2 (ps.take i)
    have h4 : (ps.take i).length ≤ ps.length := by simp; omega
    simp only [List.length_append]; omega
  apply CW.loop [2, 3, 5, 6, 8, 24, 25, 26, 27, 28, 29, 30, 31, 32, 33, 34, 35, 36, 37, 38, 39, 40, 41, 42, 43, 44, 45, 46, 47, 48, 49] (fun s : Nat × Option Addr × Nat => s.1 ≤ ps.length ∧ incr (-1) (ps.take s.1) = true) (fun s => [(24, Value.int .i64 (s.1 : Int)), (5, .int .i64 (lastR (-1) (ps.take s.1))), (6, .int .i64 0)])
    (fun s => St w NoF [wrA 139 [.bool true] bw s.2.1 s.2.2 (enc ps.length ++ (ps.take s.1).flatMap fun p => encs (plcNums p)), rdA a (pcs ps)]) (fun s => ps.length - s.1)
  · exact fun w' hw' => ⟨(0, a2, c2), ⟨by simp, rfl⟩, ⟨rfl, rfl, rfl, trivial⟩, hw'.tail1.cast (by simp [encs])⟩
  rintro ⟨i, a1, c1⟩ g ⟨hi, hinc⟩
  simp only at hi hinc ⊢
  by_cases hlt : i < ps.length
  · obtain ⟨ba, oa, rfl⟩ := hr.form (pcs_ne hlt)
    have hk := key i hi
    have hb := hany _ (List.getElem_mem hlt)
    have hok := plcNums_ok hb
    repeat'(first|refine kv' ?_|apply jJ|refine jE' ?_|refine jp' ?_|(apply jc;kernel_rfl)|refine kg' ?_|refine kG' ?_|refine kB' fun _=>?_|refine kA' fun _=>?_|refine kK' fun _=>?_|refine kU' ?_|(apply idxX;(iterate 2 exact rfl);(iterate 2(first|omega|(dsimp only;omega)));exact rfl)|(apply LR.ev; (· apply Ev.load_agg_at (cs := ps[i].cells); (· exact rfl); (· exact rfl); (· intro w' hw'; exact rd_plc (hw'.rd_of (List.Mem.tail _ (List.Mem.head _))) hlt (by simp))); (· exact rfl))|(apply addX;(iterate 2 exact rfl);(iterate 2(first|omega|(dsimp only;omega)));exact rfl)|(apply LR.call; (· exact rfl); (intro w1 h1; refine (c54 bw a1 _ c1 _ _ (plcNums ps[i]) w1 (h1.holds _ (List.Mem.tail _ (List.Mem.tail _ (List.Mem.head _)))) (h1.rd_of_blk (List.Mem.head _)) (fun k hk hk2 => h1.apart (List.Mem.tail _ (List.Mem.head _)) rfl k (by obtain ⟨_, ad, e, rfl⟩ := hk; cases e; rfl) hk2) (by omega) (by simp [plcNums]) hok).mono ?_; rintro v w2 ⟨a2, c2, rfl, st⟩; refine LR.back (h1.did (Sel.tail _ (Sel.tail _ (Sel.head _ _ _))) rfl st (wrA_dep _ _ _ _)) ?_; clear st h1))|((first|refine kR' ?_ ?_|refine kQ' ?_ ?_);all_goals(intro hc;try simp only[hcs]at hc;try(exfalso;first|contradiction|omega))))
    · (apply ret2; (· exact rfl); intro w' hS)
      have e : charts ps = ([], 2) := by
        unfold charts
        rw [if_neg (by omega), if_neg (by simp [hcp]), if_pos ?_]
        cases hx : incr (-1) ps with
        | false => rfl
        | true =>
          have h1 := incr_append (ps.take (i + 1)) (ps.drop (i + 1)) (-1) (by rw [List.take_append_drop]; exact hx)
          rw [List.take_succ_eq_append_getElem hlt, incr_snoc, hinc] at h1
          simp at h1; omega
      rw [e]
      exact ⟨none, 0, rfl, nils w' hS.toKeep⟩
    · apply At.again (i + 1, a2, c2)
      · refine ⟨by show i + 1 ≤ _; omega, ?_⟩
        show incr (-1) (ps.take (i + 1)) = true
        rw [List.take_succ_eq_append_getElem hlt, incr_snoc, hinc]
        simpa using hc
      · (repeat (first | exact Out.refl _ _ | exact Out.mix | (apply Out.upd; (· exact rfl)) | (apply Out.updL; (· exact rfl)) | (apply Out.mixs; (· exact rfl))))
      · refine ⟨rfl, ?_, rfl, trivial⟩
        show Value.int .i64 ps[i].ring = .int .i64 (lastR (-1) (ps.take (i + 1)))
        rw [List.take_succ_eq_append_getElem hlt, lastR_snoc]
      · intro w' hw'
        exact hw'.tail1.tail1.cast (by simp only [List.take_succ_eq_append_getElem hlt, List.flatMap_append, List.flatMap_cons, List.flatMap_nil, List.append_nil, List.append_assoc])
      · show ps.length - (i + 1) < ps.length - i; omega
  · have hk := key i hi
    rw [List.take_of_length_le (by omega)] at hk hinc ⊢
    repeat'(first|refine kv' ?_|apply jJ|refine jE' ?_|refine jp' ?_|(apply jc;kernel_rfl)|refine kg' ?_|refine kG' ?_|refine kB' fun _=>?_|refine kA' fun _=>?_|refine kK' fun _=>?_|refine kU' ?_|((first|refine kR' ?_ ?_|refine kQ' ?_ ?_);all_goals(intro hc;try simp only[hcs]at hc;try(exfalso;first|contradiction|omega))))
    apply LR.call
    · exact rfl
    intro w1 h1
    refine (c56 bw a1 c1 _ w1 (h1.holds _ (List.Mem.head _)) (by omega)).mono ?_
    rintro v w2 ⟨a2, c2, rfl, hn⟩
    refine LR.back (h1.newSl hn) ?_
    repeat'(first|refine kv' ?_|apply jJ|refine jE' ?_|refine jp' ?_|(apply jc;kernel_rfl)|refine kg' ?_|refine kG' ?_|refine kB' fun _=>?_|refine kA' fun _=>?_|refine kK' fun _=>?_|refine kU' ?_|((first|refine kR' ?_ ?_|refine kQ' ?_ ?_);all_goals(intro hc;try simp only[hcs]at hc;try(exfalso;first|contradiction|omega))))
    (apply ret2; (· exact rfl); intro w' hS)
    have e : charts ps = (plcsBytes ps, 0) := by
      unfold charts
      rw [if_neg (by omega), if_neg (by simp [hcp]), if_neg (by simp [hinc])]
    rw [e]
    exact ⟨a2, c2, rfl, hS.toNew (List.Mem.head _)⟩

theorem plcsLen (ps : List Plc) : ∀ i, i ≤ ps.length → (enc ps.length ++ (ps.take i).flatMap fun p => encs (plcNums p)).length ≤ 9 + 36 * ps.length := by
  intro i hi
  have h1 : (enc ps.length).length ≤ 9 := encF_len 8 _
  have h2 : ∀ l : List Plc, (l.flatMap fun p => encs (plcNums p)).length ≤ 36 * l.length := by
    intro l
    induction l with
    | nil => simp
    | cons p r ih =>
      have := encs_len (plcNums p)
      simp only [List.flatMap_cons, List.length_append, List.length_cons]
      have e : (plcNums p).length = 4 := rfl
      omega
  have h3 := h2 (ps.take i)
  have h4 : (ps.take i).length ≤ ps.length := by simp; omega
  simp only [List.length_append]; omega
theorem incr_of_any {ps : List Plc} (l : Int) (h : ∃ p ∈ ps, plcB p = false) : (ps.any fun p => !plcB p) = true := by
  rw [List.any_eq_true]
  obtain ⟨p, hp, hb⟩ := h
  exact ⟨p, hp, by simp [hb]⟩
theorem charts_bad {ps : List Plc} (h4 : ps.length ≤ 4) {i : Nat} (hlt : i < ps.length) (h : plcB ps[i] = false ∨ ps[i].ring ≤ lastR (-1) (ps.take i)) : charts ps = ([], 2) := by
  unfold charts
  rw [if_neg (by omega)]
  by_cases ha : (ps.any fun p => !plcB p) = true
  · rw [if_pos ha]
  · rw [if_neg ha, if_pos ?_]
    rcases h with h | h
    · exact (ha (incr_of_any 0 ⟨_, List.getElem_mem hlt, h⟩)).elim
    · cases hx : incr (-1) ps with
      | false => rfl
      | true =>
        have h1 := incr_append (ps.take (i + 1)) (ps.drop (i + 1)) (-1) (by rw [List.take_append_drop]; exact hx)
        rw [List.take_succ_eq_append_getElem hlt, incr_snoc, Bool.and_eq_true] at h1
        have := h1.2
        simp at this; omega
theorem lastR_prev {ps : List Plc} {i : Nat} (l : Int) (h : i < ps.length) : lastR l (ps.take (i + 1)) = ps[i].ring := by
  rw [List.take_succ_eq_append_getElem h, lastR_snoc]
theorem plc_enc {p : Plc} (h : plcB p = true) (x : Int) (hx : x ∈ plcNums p) : putE x = 0 ∧ putL x = enc x.toNat ∧ (enc x.toNat).length ≤ 9 := by
  have := plcNums_ok h x hx
  exact ⟨putE_ok this, putL_ok this, encF_len 8 _⟩

theorem putL_len9 (x : Int) : (putL x).length ≤ 9 := by
  unfold putL
  split
  · exact encF_len 8 _
  · simp

set_option maxHeartbeats 1000000 in
theorem c29 (a : Option Addr) (c : Nat) (ps : List Plc) (w : World) (hr : Rd w a (pcs ps)) (hm : ps.length ≤ 281474976710656) (hi64 : plcsI ps) :
    CallsTo Try.prog 80 [.slice a ps.length c] w fun v w' => ∃ a2 c2, v = .tuple [.slice a2 (charts ps).1.length c2, .int .i64 (charts ps).2].toArray ∧ NewSl w w' (.slice a2 (charts ps).1.length c2) 5 1 (charts ps).1.length (bv (charts ps).1) := by
  refine go_in (n := 76) (St.rd1 hr) Try.func80 rfl rfl ?_
  have nils : ∀ w', Grew w w' → NewSl w w' (.slice none 0 0) 5 1 0 (bv []) := fun w' hg => ⟨hg, World.ownsRow_nil _ _ _ _⟩
  repeat'(first|refine kv' ?_|apply jJ|refine jE' ?_|refine jp' ?_|(apply jc;kernel_rfl)|refine kg' ?_|refine kG' ?_|refine kB' fun _=>?_|refine kA' fun _=>?_|refine kK' fun _=>?_|refine kU' ?_|((first|refine kR' ?_ ?_|refine kQ' ?_ ?_);all_goals(intro hc;try simp only[hcs]at hc;try(exfalso;first|contradiction|omega))))
  · (apply ret2; (· exact rfl); intro w' hS)
    have e : charts ps = ([], 5) := by unfold charts; rw [if_pos (by omega)]
    rw [e]
    exact ⟨none, 0, rfl, nils w' hS.toKeep⟩
  rename _ => h4
  have h4' : ps.length ≤ 4 := by omega
  apply LR.call
  · exact rfl
  intro w1 h1
  refine (c77 w1).mono ?_
  rintro v w2 ⟨bw, rfl, hn⟩
  refine LR.back (wr_open (h1.got hn (wrA_dep _ _ _ _))) ?_
  clear hn h1
  have e1 : putL (ps.length : Int) = enc ps.length := by rw [putL_ok (by unfold okN; omega)]; rfl
  repeat'(first|refine kv' ?_|apply jJ|refine jE' ?_|refine jp' ?_|(apply jc;kernel_rfl)|refine kg' ?_|refine kG' ?_|refine kB' fun _=>?_|refine kA' fun _=>?_|refine kK' fun _=>?_|refine kU' ?_|(apply LR.call; (· exact rfl); (intro w1 h1; refine (c78 _ _ _ _ _ w1 (wr_hold h1) (by first | omega | (simp; done) | (simp only [List.length_append]; omega))).mono ?_; rintro v w2 ⟨a2, c2, rfl, st⟩; refine LR.back (wr_did h1 st) ?_; clear st h1))|((first|refine kR' ?_ ?_|refine kQ' ?_ ?_);all_goals(intro hc;try simp only[hcs]at hc;try(exfalso;first|contradiction|omega))))
  rw [e1]
  apply CW.loop [2, 3, 5, 14, 15, 16, 17, 18, 19, 20, 21, 22, 23, 24, 25, 26, 27, 28, 29, 30, 31, 32, 33, 34, 35, 36, 37, 38, 39, 40, 41, 42, 43, 44, 45, 46, 47, 48, 49, 50, 51, 52, 53, 54, 55, 56, 57, 58, 59, 60, 61, 62, 63, 64, 65, 66, 67, 68, 69, 70, 71, 72, 73] (fun s : Nat × Option Addr × Nat => s.1 ≤ ps.length ∧ (∀ p ∈ ps.take s.1, plcB p = true) ∧ incr (-1) (ps.take s.1) = true) (fun s => [(5, Value.int .i64 (s.1 : Int))])
    (fun s => St w NoF [wr1 148 [] bw s.2.1 s.2.2 (enc ps.length ++ (ps.take s.1).flatMap fun p => encs (plcNums p)), wr2 s.2.1 s.2.2 (enc ps.length ++ (ps.take s.1).flatMap fun p => encs (plcNums p)), rdA a (pcs ps)]) (fun s => ps.length - s.1)
  · exact fun w' hw' => ⟨(0, a2, c2), ⟨by simp, by simp, rfl⟩, ⟨rfl, trivial⟩, hw'.cast (by simp [encs])⟩
  rintro ⟨i, a1, c1⟩ g ⟨hi, hall, hinc⟩
  simp only at hi hinc hall ⊢
  by_cases hlt : i < ps.length
  · obtain ⟨ba, oa, rfl⟩ := hr.form (pcs_ne hlt)
    have hk := plcsLen ps i hi
    have hp64 := hi64 _ (List.getElem_mem hlt)
    have hk' := hk
    rw [List.length_append] at hk'
    have hl1 := putL_len9 ps[i].ring
    have hl2 := putL_len9 ps[i].seq
    have hl3 := putL_len9 ps[i].rep
    have hl4 := putL_len9 ps[i].members
    repeat'(first|refine kv' ?_|apply jJ|refine jE' ?_|refine jp' ?_|(apply jc;kernel_rfl)|refine kg' ?_|refine kG' ?_|refine kB' fun _=>?_|refine kA' fun _=>?_|refine kK' fun _=>?_|refine kU' ?_|(apply idxX;(iterate 2 exact rfl);(iterate 2(first|omega|(dsimp only;omega)));exact rfl)|(apply subX;(iterate 2 exact rfl);(iterate 2(first|omega|(dsimp only;omega)));exact rfl)|(apply LR.ev; (· apply Ev.load_agg_at (cs := ps[i].cells); (· exact rfl); (· exact rfl); (· intro w' hw'; exact rd_plc (hw'.rd_of (List.Mem.tail _ (List.Mem.tail _ (List.Mem.head _)))) hlt (by simp))); (· exact rfl))|(apply LR.qcall; (· exact rfl); (· intro w1 h1; have hq := CallsTo.q (c79 ps[i] w1 hp64.2.2.2) h1; show CallsTo Try.prog 101 [ps[i].val] w1 _; exact hq))|(apply LR.ev; (· apply Ev.load; (· exact rfl); (· intro w' hw'; first | exact plc_cell (i := i) (hw'.rd_of (List.Mem.tail _ (List.Mem.tail _ (List.Mem.head _)))) hlt 0 rfl (by omega) | exact plc_cell (i := i) (hw'.rd_of (List.Mem.tail _ (List.Mem.tail _ (List.Mem.head _)))) hlt 1 rfl (by omega) | exact plc_cell (i := i) (hw'.rd_of (List.Mem.tail _ (List.Mem.tail _ (List.Mem.head _)))) hlt 2 rfl (by omega) | exact plc_cell (i := i) (hw'.rd_of (List.Mem.tail _ (List.Mem.tail _ (List.Mem.head _)))) hlt 3 rfl (by omega) | exact plc_cell (i := i - 1) (hw'.rd_of (List.Mem.tail _ (List.Mem.tail _ (List.Mem.head _)))) (by omega) 0 rfl (by omega))); (· exact rfl))|(apply LR.call; (· exact rfl); (intro w1 h1; refine (c78 _ _ _ _ _ w1 (wr_hold h1) (by first | omega | (simp; done) | (simp only [List.length_append]; omega))).mono ?_; rintro v w2 ⟨a2, c2, rfl, st⟩; refine LR.back (wr_did h1 st) ?_; clear st h1))|(apply addX;(iterate 2 exact rfl);(iterate 2(first|omega|(dsimp only;omega)));exact rfl)|((first|refine kR' ?_ ?_|refine kQ' ?_ ?_);all_goals(intro hc;try simp only[hcs]at hc;try(exfalso;first|contradiction|omega))))
    · (apply ret2; (· exact rfl); intro w' hS)
      rw [charts_bad h4' hlt (.inl hc)]
      exact ⟨none, 0, rfl, nils w' hS.toKeep⟩
    · (apply ret2; (· exact rfl); intro w' hS)
      obtain ⟨k, rfl⟩ : ∃ k, i = k + 1 := ⟨i - 1, by omega⟩
      rw [charts_bad h4' hlt (.inr (by rw [lastR_prev _ (by omega)]; exact hc))]
      exact ⟨none, 0, rfl, nils w' hS.toKeep⟩
    all_goals
      have hb : plcB ps[i] = true := by assumption
      apply At.again (i + 1, a2, c2)
      · refine ⟨by show i + 1 ≤ _; omega, ?_, ?_⟩
        · show ∀ p ∈ ps.take (i + 1), plcB p = true
          rw [List.take_succ_eq_append_getElem hlt]
          intro p hp
          rcases List.mem_append.1 hp with hp | hp
          · exact hall p hp
          · simp at hp; subst hp; exact hb
        · show incr (-1) (ps.take (i + 1)) = true
          rw [List.take_succ_eq_append_getElem hlt, incr_snoc, hinc, Bool.true_and, decide_eq_true_eq]
          rcases Nat.eq_zero_or_pos i with h0 | h0
          · subst h0
            have := plcNums_ok hb ps[0].ring (by simp [plcNums])
            simp [lastR]; unfold okN at this; omega
          · obtain ⟨k, rfl⟩ : ∃ k, i = k + 1 := ⟨i - 1, by omega⟩
            rw [lastR_prev _ (by omega)]
            first | assumption | (exfalso; omega)
      · (repeat (first | exact Out.refl _ _ | exact Out.mix | (apply Out.upd; (· exact rfl)) | (apply Out.updL; (· exact rfl)) | (apply Out.mixs; (· exact rfl))))
      · exact ⟨rfl, trivial⟩
      · intro w' hw'
        refine hw'.cast ?_
        have q1 := (plc_enc hb ps[i].ring (by simp [plcNums])).2.1
        have q2 := (plc_enc hb ps[i].seq (by simp [plcNums])).2.1
        have q3 := (plc_enc hb ps[i].rep (by simp [plcNums])).2.1
        have q4 := (plc_enc hb ps[i].members (by simp [plcNums])).2.1
        simp only [q1, q2, q3, q4, List.take_succ_eq_append_getElem hlt, List.flatMap_append, List.flatMap_cons, List.flatMap_nil, List.append_nil, List.append_assoc, encs, plcNums]
      · show ps.length - (i + 1) < ps.length - i; omega
  · have hk := plcsLen ps i hi
    rw [List.take_of_length_le (by omega)] at hk hinc hall ⊢
    repeat'(first|refine kv' ?_|apply jJ|refine jE' ?_|refine jp' ?_|(apply jc;kernel_rfl)|refine kg' ?_|refine kG' ?_|refine kB' fun _=>?_|refine kA' fun _=>?_|refine kK' fun _=>?_|refine kU' ?_|((first|refine kR' ?_ ?_|refine kQ' ?_ ?_);all_goals(intro hc;try simp only[hcs]at hc;try(exfalso;first|contradiction|omega))))
    apply LR.call
    · exact rfl
    intro w1 h1
    refine (c80 bw a1 c1 _ w1 (wr_hold h1) (by omega)).mono ?_
    rintro v w2 ⟨a2, c2, rfl, hn⟩
    refine LR.back (h1.newSl hn) ?_
    repeat'(first|refine kv' ?_|apply jJ|refine jE' ?_|refine jp' ?_|(apply jc;kernel_rfl)|refine kg' ?_|refine kG' ?_|refine kB' fun _=>?_|refine kA' fun _=>?_|refine kK' fun _=>?_|refine kU' ?_|((first|refine kR' ?_ ?_|refine kQ' ?_ ?_);all_goals(intro hc;try simp only[hcs]at hc;try(exfalso;first|contradiction|omega))))
    (apply ret2; (· exact rfl); intro w' hS)
    have e : charts ps = (plcsBytes ps, 0) := by
      unfold charts
      rw [if_neg (by omega), if_neg ?_, if_neg (by simp [hinc])]
      intro hx
      rw [List.any_eq_true] at hx
      obtain ⟨p, hp, hx⟩ := hx
      simp [hall p hp] at hx
    rw [e]
    exact ⟨a2, c2, rfl, hS.toNew (List.Mem.head _)⟩
end Go.Proofs.Ytphcnaafhcfakaa

namespace Go.Proofs.Ytphcnaafhcfakaa
open Go.Hb
attribute [local irreducible] LR CW At Ev thn blk finK noG again CallsTo DW QL dnext
set_option maxRecDepth 100000

def decs : Nat → List Int → List Int × Int × List Int
  | 0, l => ([], 0, l)
  | n + 1, l => if (dec l).2.2 ≠ 0 then ([], (dec l).2.2, l.drop (dec l).2.1) else
    ((((dec l).1 : Nat) : Int) :: (decs n (l.drop (dec l).2.1)).1, (decs n (l.drop (dec l).2.1)).2)
theorem decs_len : ∀ n l, (decs n l).1.length ≤ n ∧ ((decs n l).2.1 = 0 → (decs n l).1.length = n)
  | 0, l => by simp [decs]
  | n + 1, l => by
    unfold decs
    split
    · rename_i h; simp [h]
    · have := decs_len n (l.drop (dec l).2.1); simp; omega
theorem Byt.drop {l : List Int} (h : Byt l) (n : Nat) : Byt (l.drop n) := fun b hb => h b (List.mem_of_mem_drop hb)
theorem decs_rest : ∀ n l, ∃ k, (decs n l).2.2 = l.drop k
  | 0, l => ⟨0, by simp [decs]⟩
  | n + 1, l => by
    unfold decs
    split
    · exact ⟨_, rfl⟩
    · obtain ⟨k, hk⟩ := decs_rest n (l.drop (dec l).2.1)
      exact ⟨(dec l).2.1 + k, by simp only [hk, List.drop_drop]⟩

def pv (l : List Addr) : List Value := l.map fun x => .pointer (some x)
@[simp] theorem pv_length (l : List Addr) : (pv l).length = l.length := by simp [pv]
theorem pv_at {l : List Addr} {q i : Nat} (hq : q = i) (h : i < l.length) : (pv l)[q]? = some (.pointer (some (l[i]'h))) := by subst hq; simp [pv, h]

set_option maxHeartbeats 1000000 in
theorem c66 (br : Nat) (a : Option Addr) (c : Nat) (l : List Int) (b : Option Addr) (cb : Nat) (ads : List Addr) (T : List Int → Asrt) (w : World) (h : (both (rrA 159 [.bool true] br a c l) (T [])).holds w)
    (hr : Rd w b (pv ads)) (hsep : ∀ k, rdFoot b (pv ads) k → ¬ (both (rrA 159 [.bool true] br a c l) (T [])).foot k)
    (hT : ∀ vs x, (hi : vs.length < ads.length) → Stores Try.prog 3 ads[vs.length] (.int .i64 x) (T vs) (T (vs ++ [x]))) (hTe : ∀ vs, (T vs).excl = true) (hTd : ∀ vs, (T vs).dep)
    (hb : Byt l) (hm : l.length ≤ 281474976710656) (hlen : ads.length ≤ 100) :
    CallsTo Try.prog 117 [.pointer (some ⟨br, 0, none⟩), .slice b ads.length cb] w fun v w' => ∃ a' c', v = .int .i64 (decs ads.length l).2.1 ∧ Step (both (rrA 159 [.bool true] br a c l) (T [])) (both (rrA 159 [.bool true] br a' c' (decs ads.length l).2.2) (T (decs ads.length l).1)) w w' := by
  have dr : ∀ a c l, (rrA 159 [.bool true] br a c l).dep := fun a c l => rrA_dep _ _ _ _ _ _
  refine go_in (n := 27) (St.part ((St.one (a := both _ _) h h.2.2.2 (both_dep (dr _ _ _) (hTd _))).addRd hr hsep |>.swap) (dr _ _ _) (hTd _)) Try.func117 rfl rfl ?_
  repeat'(first|refine kv' ?_|apply jJ|refine jE' ?_|refine jp' ?_|(apply jc;kernel_rfl)|refine kg' ?_|refine kG' ?_|refine kB' fun _=>?_|refine kA' fun _=>?_|refine kK' fun _=>?_|refine kU' ?_|((first|refine kR' ?_ ?_|refine kQ' ?_ ?_);all_goals(intro hc;try simp only[hcs]at hc;try(exfalso;first|contradiction|omega))))
  apply CW.loop [4, 6, 7, 8, 11, 12, 13, 14, 15, 16, 17, 18, 19, 20, 21, 22, 23, 24, 25, 26] (fun s : Nat × Option Addr × Nat × List Int × List Int => s.1 ≤ ads.length ∧ s.2.2.2.1.length = s.1 ∧ (∃ k, s.2.2.2.2 = l.drop k) ∧ decs ads.length l = (s.2.2.2.1 ++ (decs (ads.length - s.1) s.2.2.2.2).1, (decs (ads.length - s.1) s.2.2.2.2).2)) (fun s => [(11, Value.int .i64 (s.1 : Int))])
    (fun s => St w (both (rrA 159 [.bool true] br a c l) (T [])).foot [rrA 159 [.bool true] br s.2.1 s.2.2.1 s.2.2.2.2, T s.2.2.2.1, rdA b (pv ads)]) (fun s => ads.length - s.1)
  · exact fun w' hw' => ⟨(0, a, c, [], l), ⟨by simp, rfl, ⟨0, rfl⟩, by simp⟩, ⟨rfl, trivial⟩, hw'⟩
  rintro ⟨i, a1, c1, vs, l1⟩ g ⟨hi, hvs, ⟨k, hk⟩, hdec⟩
  simp only at hi hvs hk hdec ⊢
  have hb1 : Byt l1 := hk ▸ hb.drop k
  have hm1 : l1.length ≤ 281474976710656 := by rw [hk]; simp; omega
  by_cases hlt : i < ads.length
  · obtain ⟨bb, ob, rfl⟩ := hr.form (fun e => by have := congrArg List.length e; simp at this; subst this; simp at hlt)
    obtain ⟨q, hq⟩ : ∃ q, ads.length - i = q + 1 := ⟨ads.length - i - 1, by omega⟩
    rw [hq] at hdec
    have hst : ∀ x, Stores Try.prog 3 ads[i] (.int .i64 x) (T vs) (T (vs ++ [x])) := by intro x; have := hT vs x (by omega); simpa only [hvs] using this
    repeat'(first|refine kv' ?_|apply jJ|refine jE' ?_|refine jp' ?_|(apply jc;kernel_rfl)|refine kg' ?_|refine kG' ?_|refine kB' fun _=>?_|refine kA' fun _=>?_|refine kK' fun _=>?_|refine kU' ?_|(apply idxX;(iterate 2 exact rfl);(iterate 2(first|omega|(dsimp only;omega)));exact rfl)|(apply LR.ev; (· apply Ev.load_rd; (· exact rfl); (· repeat (first | exact mH _ _ | apply mT)); (· exact pv_at (i := i) (by simp) (by omega))); (· exact rfl))|(apply LR.call; (· exact rfl); (intro w1 h1; refine (c73 _ _ _ _ w1 (h1.holds _ (List.Mem.head _)) hb1 hm1).mono ?_; rintro v w2 ⟨a2, c2, rfl, st⟩; refine LR.back (h1.did (Sel.head _ _ _) rfl st (rrA_dep _ _ _ _ _ _)) ?_; clear st h1))|(apply addX;(iterate 2 exact rfl);(iterate 2(first|omega|(dsimp only;omega)));exact rfl)|((first|refine kR' ?_ ?_|refine kQ' ?_ ?_);all_goals(intro hc;try simp only[hcs]at hc;try(exfalso;first|contradiction|omega))))
    · (apply ret1; (· exact rfl); intro w' hS)
      have e : decs (q + 1) l1 = ([], (dec l1).2.2, l1.drop (dec l1).2.1) := by unfold decs; rw [if_pos hc]
      rw [hdec, e]
      refine ⟨a2, c2, rfl, (hS.join rfl (hTe _)).step rfl |> fun h => ?_⟩
      simpa using h
    · refine LR.store_obj (v := .int .i64 ((dec l1).1 : Int)) rfl rfl (Sel.tail _ (Sel.head _ _ _)) (hTe _) (hst _) (hTd _) ?_
      repeat'(first|refine kv' ?_|apply jJ|refine jE' ?_|refine jp' ?_|(apply jc;kernel_rfl)|refine kg' ?_|refine kG' ?_|refine kB' fun _=>?_|refine kA' fun _=>?_|refine kK' fun _=>?_|refine kU' ?_|(apply addX;(iterate 2 exact rfl);(iterate 2(first|omega|(dsimp only;omega)));exact rfl)|((first|refine kR' ?_ ?_|refine kQ' ?_ ?_);all_goals(intro hc;try simp only[hcs]at hc;try(exfalso;first|contradiction|omega))))
      apply At.again (i + 1, a2, c2, vs ++ [((dec l1).1 : Int)], l1.drop (dec l1).2.1)
      · refine ⟨by show i + 1 ≤ _; omega, by simp [hvs], ⟨k + (dec l1).2.1, by simp only [hk, List.drop_drop]⟩, ?_⟩
        show decs ads.length l = _
        have e : decs (q + 1) l1 = ((((dec l1).1 : Nat) : Int) :: (decs q (l1.drop (dec l1).2.1)).1, (decs q (l1.drop (dec l1).2.1)).2) := by rw [decs, if_neg (by simpa using hc)]
        rw [hdec, e, show ads.length - (i + 1) = q by omega]
        simp
      · (repeat (first | exact Out.refl _ _ | exact Out.mix | (apply Out.upd; (· exact rfl)) | (apply Out.updL; (· exact rfl)) | (apply Out.mixs; (· exact rfl))))
      · exact ⟨rfl, trivial⟩
      · exact fun w' hw' => hw'
      · show ads.length - (i + 1) < ads.length - i; omega
  · repeat'(first|refine kv' ?_|apply jJ|refine jE' ?_|refine jp' ?_|(apply jc;kernel_rfl)|refine kg' ?_|refine kG' ?_|refine kB' fun _=>?_|refine kA' fun _=>?_|refine kK' fun _=>?_|refine kU' ?_|((first|refine kR' ?_ ?_|refine kQ' ?_ ?_);all_goals(intro hc;try simp only[hcs]at hc;try(exfalso;first|contradiction|omega))))
    (apply ret1; (· exact rfl); intro w' hS)
    have hq : ads.length - i = 0 := by omega
    rw [hq] at hdec
    rw [hdec]
    refine ⟨a1, c1, rfl, (hS.join rfl (hTe _)).step rfl |> fun h => ?_⟩
    simpa [decs] using h

theorem c66m {br : Nat} {a : Option Addr} {c : Nat} {l : List Int} {b cb m : Nat} {ads : List Addr} {E : TypeId} {T : List Int → Asrt} {w0 w : World} {F : Nat → Prop} {R : List Asrt}
    (h : St w0 F (both (rrA 159 [.bool true] br a c l) (T []) :: .own b (.cells (pv ads).toArray E (0, 0)) :: R) w) (hads : ads.length = m)
    (hT : ∀ vs x, (hi : vs.length < ads.length) → Stores Try.prog 3 ads[vs.length] (.int .i64 x) (T vs) (T (vs ++ [x]))) (hTe : ∀ vs, (T vs).excl = true) (hTd : ∀ vs, (T vs).dep)
    (hb : Byt l) (hm : l.length ≤ 281474976710656) (hlen : m ≤ 100) :
    CallsTo Try.prog 117 [.pointer (some ⟨br, 0, none⟩), .slice (some ⟨b, 0, none⟩) m cb] w fun v w' => ∃ a' c', v = .int .i64 (decs m l).2.1 ∧ St w0 F (rrA 159 [.bool true] br a' c' (decs m l).2.2 :: T (decs m l).1 :: .own b (.cells (pv ads).toArray E (0, 0)) :: R) w' := by
  subst hads
  refine (c66 br a c l (some ⟨b, 0, none⟩) cb ads T w (h.holds _ (List.Mem.head _)) (h.rd_of_blk (List.Mem.tail _ (List.Mem.head _))) (fun k hk hk2 => h.apart (List.Mem.head _) rfl k hk2 (by obtain ⟨_, ad, e, rfl⟩ := hk; cases e; rfl)) hT hTe hTd hb hm hlen).mono ?_
  rintro v w2 ⟨a2, c2, rfl, st⟩
  exact ⟨a2, c2, rfl, St.part (h.did (Sel.head _ _ _) rfl st (both_dep (rrA_dep _ _ _ _ _ _) (hTd _))) (rrA_dep _ _ _ _ _ _) (hTd _)⟩
theorem decs_bound : ∀ n l, (∀ x ∈ (decs n l).1, 0 ≤ x ∧ x ≤ 9007199254740991)
  | 0, l => by simp [decs]
  | n + 1, l => by
    unfold decs
    split
    · simp
    · rename_i h
      have ih := decs_bound n (l.drop (dec l).2.1)
      have hb := (decF_bound 8 0 0 l).2 (by simpa [dec] using h)
      intro x hx
      simp only [List.mem_cons] at hx
      rcases hx with rfl | hx
      · have : (dec l).1 ≤ 9007199254740991 := hb.2
        omega
      · exact ih x hx
def plcOf (v : List Int) : Plc := ⟨v.getD 0 0, v.getD 1 0, v.getD 2 0, v.getD 3 0⟩
def rows : Nat → List Int → List Plc × Int × List Int
  | 0, l => ([], 0, l)
  | n + 1, l => if (decs 4 l).2.1 ≠ 0 then ([], (decs 4 l).2.1, (decs 4 l).2.2) else (plcOf (decs 4 l).1 :: (rows n (decs 4 l).2.2).1, (rows n (decs 4 l).2.2).2)
def places (l : List Int) : List Plc × Int :=
  if (dec l).2.2 ≠ 0 then ([], (dec l).2.2)
  else if 4 < (dec l).1 then ([], 5)
  else if (rows (dec l).1 (l.drop (dec l).2.1)).2.1 ≠ 0 then ([], (rows (dec l).1 (l.drop (dec l).2.1)).2.1)
  else if (charts (rows (dec l).1 (l.drop (dec l).2.1)).1).2 ≠ 0 ∨ 0 < (rows (dec l).1 (l.drop (dec l).2.1)).2.2.length then ([], 4)
  else ((rows (dec l).1 (l.drop (dec l).2.1)).1, 0)
def zz (k : Nat) : List Value := List.replicate k (.int .i64 0)
theorem four {v : List Int} (h : v.length = 4) : ∃ a b c d, v = [a, b, c, d] := by
  match v, h with
  | [a, b, c, d], _ => exact ⟨a, b, c, d, rfl⟩
theorem plcOf_cells {v : List Int} (h : v.length = 4) : (plcOf v).cells = iv v := by
  obtain ⟨a, b, c, d, rfl⟩ := four h
  rfl
theorem splice_mid (A B : List Value) (z v : Value) {o : Nat} (ho : o = A.length) : splice (A ++ z :: B) o [v] = A ++ v :: B := by
  subst ho
  unfold splice
  rw [List.take_append_of_le_length (Nat.le_refl _), List.take_length]
  rw [List.drop_append]
  simp
theorem plcOf_i64 {v : List Int} (h : ∀ x ∈ v, 0 ≤ x ∧ x ≤ 9007199254740991) : i64 (plcOf v).ring ∧ i64 (plcOf v).seq ∧ i64 (plcOf v).rep ∧ i64 (plcOf v).members := by
  have : ∀ i, 0 ≤ v.getD i 0 ∧ v.getD i 0 ≤ 9007199254740991 := by
    intro i
    by_cases hi : i < v.length
    · have := h v[i] (List.getElem_mem hi)
      simpa [List.getD_eq_getElem?_getD, hi] using this
    · simp [List.getD_eq_getElem?_getD, List.getElem?_eq_none (Nat.le_of_not_lt hi)]
  unfold i64 plcOf
  have h0 := this 0; have h1 := this 1; have h2 := this 2; have h3 := this 3
  refine ⟨⟨?_, ?_⟩, ⟨?_, ?_⟩, ⟨?_, ?_⟩, ⟨?_, ?_⟩⟩ <;> (dsimp only; omega)
theorem decs_rest_len (n : Nat) (l : List Int) : (decs n l).2.2.length ≤ l.length := by
  obtain ⟨k, hk⟩ := decs_rest n l
  rw [hk]; simp
theorem decs_rest_byt (n : Nat) {l : List Int} (h : Byt l) : Byt (decs n l).2.2 := by
  obtain ⟨k, hk⟩ := decs_rest n l
  rw [hk]; exact h.drop k

end Go.Proofs.Ytphcnaafhcfakaa

namespace Go.Proofs.Ytphcnaafhcfakaa
open Go.Hb
attribute [local irreducible] LR CW At Ev thn blk finK noG again CallsTo DW QL dnext
set_option maxRecDepth 100000

set_option maxHeartbeats 2000000 in
theorem c25 (a : Option Addr) (ca : Nat) (l : List Int) (w : World) (hr : Rd w a (bv l)) (hz : a = none → ca = 0) (hm : l.length ≤ 140737488355328) (hb : Byt l) :
    CallsTo Try.prog 109 [.slice a l.length ca] w fun v w' => ∃ a2 c2, v = .tuple [.slice a2 (places l).1.length c2, .int .i64 (places l).2].toArray ∧ NewSl w w' (.slice a2 (places l).1.length c2) 70 4 (places l).1.length (pcs (places l).1) := by
  refine go_in (n := 71) (St.rd1 hr) Try.func109 rfl rfl ?_
  have nils : ∀ w', Grew w w' → NewSl w w' (.slice none 0 0) 70 4 0 (pcs []) := fun w' hg => ⟨hg, World.ownsRow_nil _ _ _ _⟩
  repeat'(first|refine kv' ?_|apply jJ|refine jE' ?_|refine jp' ?_|(apply jc;kernel_rfl)|refine kg' ?_|refine kG' ?_|refine kB' fun _=>?_|refine kA' fun _=>?_|refine kK' fun _=>?_|refine kU' ?_|(apply LR.call; (· exact rfl); (intro w1 h1; first | (refine (c65 a ca l w1 (h1.rd_of (List.Mem.head _)) hz hm).mono ?_; rintro v w2 ⟨br, a1, c1, rfl, hn⟩; refine LR.back (h1.got hn (rrA_dep _ _ _ _ _ _)) ?_; clear hn h1) | (refine (c73 _ _ _ l w1 (h1.holds _ (List.Mem.head _)) hb (by omega)).mono ?_; rintro v w2 ⟨a2, c2, rfl, st⟩; refine LR.back (h1.did (Sel.head _ _ _) rfl st (rrA_dep _ _ _ _ _ _)) ?_; clear st h1)))|((first|refine kR' ?_ ?_|refine kQ' ?_ ?_);all_goals(intro hc;try simp only[hcs]at hc;try(exfalso;first|contradiction|omega))))
  · (apply ret2; (· exact rfl); intro w' hS)
    have e : places l = ([], (dec l).2.2) := by unfold places; rw [if_pos hc]
    rw [e]
    exact ⟨none, 0, rfl, nils w' hS.toKeep⟩
  · rename (dec l).2.2 = 0 => hd
    (apply ret2; (· exact rfl); intro w' hS)
    have e : places l = ([], 5) := by unfold places; rw [if_neg (by simpa using hd), if_pos (by omega)]
    rw [e]
    exact ⟨none, 0, rfl, nils w' hS.toKeep⟩
  rename (dec l).2.2 = 0 => hd
  rename ((dec l).1 : Int) ≤ 4 => h4
  have hdl := dec_le l
  have ep : places l = if (rows (dec l).1 (l.drop (dec l).2.1)).2.1 ≠ 0 then ([], (rows (dec l).1 (l.drop (dec l).2.1)).2.1)
    else if (charts (rows (dec l).1 (l.drop (dec l).2.1)).1).2 ≠ 0 ∨ 0 < (rows (dec l).1 (l.drop (dec l).2.1)).2.2.length then ([], 4)
    else ((rows (dec l).1 (l.drop (dec l).2.1)).1, 0) := by
    unfold places; rw [if_neg (by simpa using hd), if_neg (by omega)]
  have hb0 : Byt (l.drop (dec l).2.1) := hb.drop _
  have hm0 : (l.drop (dec l).2.1).length ≤ 140737488355328 := by simp; omega
  rw [ep]
  clear ep hd
  generalize l.drop (dec l).2.1 = l0 at *
  generalize (dec l).1 = n at *
  have h4' : n ≤ 4 := by omega
  apply LR.makeSlice
  · exact rfl
  · exact rfl
  · omega
  · omega
  · exact rfl
  · exact rfl
  intro bs
  repeat'(first|refine kv' ?_|apply jJ|refine jE' ?_|refine jp' ?_|(apply jc;kernel_rfl)|refine kg' ?_|refine kG' ?_|refine kB' fun _=>?_|refine kA' fun _=>?_|refine kK' fun _=>?_|refine kU' ?_|((first|refine kR' ?_ ?_|refine kQ' ?_ ?_);all_goals(intro hc;try simp only[hcs]at hc;try(exfalso;first|contradiction|omega))))
  have ezz : (List.replicate n [Value.int .i64 0, .int .i64 0, .int .i64 0, .int .i64 0]).flatten = pcs [] ++ zz (4 * n) := by
    have : ∀ k, (List.replicate k [Value.int .i64 0, .int .i64 0, .int .i64 0, .int .i64 0]).flatten = zz (4 * k) := by
      intro k
      induction k with
      | zero => rfl
      | succ k ih => rw [List.replicate_succ, List.flatten_cons, ih, show 4 * (k + 1) = 4 + 4 * k by omega]; unfold zz; rw [Nat.add_comm]; rfl
    rw [this]; rfl
  rw [ezz]
  apply CW.loop [2, 3, 8, 9, 10, 31, 32, 33, 34, 35, 36, 37, 38, 39, 40, 41, 42, 43, 44, 45, 46, 47, 48, 49, 50, 51, 52, 53, 54, 55, 56, 57] (fun s : Nat × Option Addr × Nat × List Plc × List Int => s.1 ≤ n ∧ s.2.2.2.1.length = s.1 ∧ plcsI s.2.2.2.1 ∧ Byt s.2.2.2.2 ∧ s.2.2.2.2.length ≤ 140737488355328 ∧ rows n l0 = (s.2.2.2.1 ++ (rows (n - s.1) s.2.2.2.2).1, (rows (n - s.1) s.2.2.2.2).2)) (fun s => [(31, Value.int .i64 (s.1 : Int))])
    (fun s => St w NoF [.own bs (.cells (pcs s.2.2.2.1 ++ zz (4 * (n - s.1))).toArray 70 (0, 0)), rrA 159 [.bool true] br s.2.1 s.2.2.1 s.2.2.2.2]) (fun s => n - s.1)
  · exact fun w' hw' => ⟨(0, a2, c2, [], l0), ⟨by simp, rfl, fun p hp => by simp at hp, hb0, hm0, by simp⟩, ⟨rfl, trivial⟩, hw'.sub (by simp)⟩
  rintro ⟨i, a1, c1, ps, l1⟩ g ⟨hi, hps, hpi, hb1, hm1, hrows⟩
  simp only at hi hps hpi hb1 hm1 hrows ⊢
  by_cases hlt : i < n
  · obtain ⟨q, hq⟩ : ∃ q, n - i = q + 1 := ⟨n - i - 1, by omega⟩
    rw [hq] at hrows ⊢
    repeat'(first|(apply CW.reg_held (fun _ => True); apply DW.quiet [0, 1, 2, 3, 4, 5, 6, 7, 8, 9, 10, 11, 12, 13, 14]; (· kernel_rfl); (· exact fun _ _ => trivial))|refine kv' ?_|apply jJ|refine jE' ?_|refine jp' ?_|(apply jc;kernel_rfl)|refine kg' ?_|refine kG' ?_|refine kB' fun _=>?_|refine kA' fun _=>?_|refine kK' fun _=>?_|refine kU' ?_|(apply idxX;(iterate 2 exact rfl);(iterate 2(first|omega|(dsimp only;omega)));exact rfl)|((first|refine kR' ?_ ?_|refine kQ' ?_ ?_);all_goals(intro hc;try simp only[hcs]at hc;try(exfalso;first|contradiction|omega))))
    repeat'(first|refine yv' ?_|refine uv' ?_|refine un' ?_|apply QL.nil)
    apply DW.loud 15
    · exact rfl
    · kernel_rfl
    repeat'(first|refine kv' ?_|apply jJ|refine jE' ?_|refine jp' ?_|(apply jc;kernel_rfl)|refine kg' ?_|refine kG' ?_|refine kB' fun _=>?_|refine kA' fun _=>?_|refine kK' fun _=>?_|refine kU' ?_|((first|refine kR' ?_ ?_|refine kQ' ?_ ?_);all_goals(intro hc;try simp only[hcs]at hc;try(exfalso;first|contradiction|omega))))
    apply At.stage_any
    apply DW.loud 16
    · exact rfl
    · kernel_rfl
    apply LR.call
    · exact rfl
    intro w1 h1
    have h2 := ((h1.rot.swap).cast (L' := [rrA 159 [.bool true] br a1 c1 l1, .own bs (.cells (pcs ps ++ iv [] ++ zz (4 * (q + 1) - ([] : List Int).length)).toArray 70 (0, 0)), _]) (by simp [iv]; rfl)).join rfl rfl
    refine (c66m (m := 4) (ads := [⟨bs, i * 4, none⟩, ⟨bs, i * 4 + 1, none⟩, ⟨bs, i * 4 + 1 + 1, none⟩, ⟨bs, i * 4 + 3, none⟩]) (T := fun vs => .own bs (.cells (pcs ps ++ iv vs ++ zz (4 * (q + 1) - vs.length)).toArray 70 (0, 0))) h2 rfl ?_ (fun _ => rfl) (fun _ => Asrt.dep_own _ _) hb1 (by omega) (by omega)).mono ?_
    · intro vs x hi'
      have e : ∀ k (hk : k < 4), ([⟨bs, i * 4, none⟩, ⟨bs, i * 4 + 1, none⟩, ⟨bs, i * 4 + 1 + 1, none⟩, ⟨bs, i * 4 + 3, none⟩] : List Addr)[k] = ⟨bs, i * 4 + k, none⟩ := by
        intro k hk
        match k, hk with
        | 0, _ => rfl
        | 1, _ => rfl
        | 2, _ => rfl
        | 3, _ => rfl
      have hi4 : vs.length < 4 := hi'
      rw [e _ hi4]
      have e2 : zz (4 * (q + 1) - vs.length) = .int .i64 0 :: zz (4 * (q + 1) - (vs ++ [x]).length) := by
        rw [show 4 * (q + 1) - vs.length = (4 * (q + 1) - (vs ++ [x]).length) + 1 by simp; omega]; rfl
      have st := Stores.own (P := Try.prog) (T := 3) (m := 1) (b := bs) (o := i * 4 + vs.length) (v := .int .i64 x) (cs := pcs ps ++ iv vs ++ zz (4 * (q + 1) - vs.length)) (vs := [.int .i64 x]) (E := 70) inferInstance rfl rfl rfl (by
        simp [pcs_length, hps, zz]; omega)
      rw [e2, splice_mid _ _ _ _ (by simp [pcs_length, hps])] at st
      rw [e2]
      simpa [iv] using st
    rintro v w2 ⟨a2, c2, rfl, st⟩
    refine LR.back st ?_
    clear st h1 h2
    repeat'(first|refine kv' ?_|apply jJ|refine jE' ?_|refine jp' ?_|(apply jc;kernel_rfl)|refine kg' ?_|refine kG' ?_|refine kB' fun _=>?_|refine kA' fun _=>?_|refine kK' fun _=>?_|refine kU' ?_|((first|refine kR' ?_ ?_|refine kQ' ?_ ?_);all_goals(intro hc;try simp only[hcs]at hc;try(exfalso;first|contradiction|omega))))
    apply At.stage_any
    apply DW.loud 17
    · exact rfl
    · kernel_rfl
    repeat'(first|refine kv' ?_|apply jJ|refine jE' ?_|refine jp' ?_|(apply jc;kernel_rfl)|refine kg' ?_|refine kG' ?_|refine kB' fun _=>?_|refine kA' fun _=>?_|refine kK' fun _=>?_|refine kU' ?_|((first|refine kR' ?_ ?_|refine kQ' ?_ ?_);all_goals(intro hc;try simp only[hcs]at hc;try(exfalso;first|contradiction|omega))))
    apply At.stage_any
    apply DW.done_thn
    · kernel_rfl
    repeat'(first|refine kv' ?_|apply jJ|refine jE' ?_|refine jp' ?_|(apply jc;kernel_rfl)|refine kg' ?_|refine kG' ?_|refine kB' fun _=>?_|refine kA' fun _=>?_|refine kK' fun _=>?_|refine kU' ?_|(apply addX;(iterate 2 exact rfl);(iterate 2(first|omega|(dsimp only;omega)));exact rfl)|((first|refine kR' ?_ ?_|refine kQ' ?_ ?_);all_goals(intro hc;try simp only[hcs]at hc;try(exfalso;first|contradiction|omega))))
    · (apply ret2; (· exact rfl); intro w' hS)
      have e : rows (q + 1) l1 = ([], (decs 4 l1).2.1, (decs 4 l1).2.2) := by rw [rows, if_pos hc]
      rw [hrows, e]
      simp only [List.append_nil]
      rw [if_pos hc]
      exact ⟨none, 0, rfl, nils w' hS.toKeep⟩
    · have hl4 := (decs_len 4 l1).2 hc
      have hl5 := decs_rest_len 4 l1
      apply At.again (i + 1, a2, c2, ps ++ [plcOf (decs 4 l1).1], (decs 4 l1).2.2)
      · refine ⟨by show i + 1 ≤ _; omega, by simp [hps], ?_, decs_rest_byt 4 hb1, by dsimp only; omega, ?_⟩
        · intro p hp
          simp only [List.mem_append, List.mem_singleton] at hp
          rcases hp with hp | rfl
          · exact hpi p hp
          · exact plcOf_i64 (decs_bound 4 l1)
        · show rows n l0 = _
          have e : rows (q + 1) l1 = (plcOf (decs 4 l1).1 :: (rows q (decs 4 l1).2.2).1, (rows q (decs 4 l1).2.2).2) := by rw [rows, if_neg (by simpa using hc)]
          rw [hrows, e, show n - (i + 1) = q by omega]
          simp
      · (repeat (first | exact Out.refl _ _ | exact Out.mix | (apply Out.upd; (· exact rfl)) | (apply Out.updL; (· exact rfl)) | (apply Out.mixs; (· exact rfl))))
      · exact ⟨rfl, trivial⟩
      · intro w' hw'
        refine (St.sub (L' := [_, _]) hw'.swap (List.Sublist.cons_cons _ (List.Sublist.cons_cons _ (List.nil_sublist _)))).cast ?_
        have e1 : pcs ps ++ iv (decs 4 l1).1 ++ zz (4 * (q + 1) - (decs 4 l1).1.length) = pcs (ps ++ [plcOf (decs 4 l1).1]) ++ zz (4 * (n - (i + 1))) := by
          rw [hl4, show 4 * (n - (i + 1)) = 4 * (q + 1) - 4 by omega]
          simp only [pcs, List.flatMap_append, List.flatMap_cons, List.flatMap_nil, List.append_nil, plcOf_cells hl4]
        rw [e1]
      · show n - (i + 1) < n - i; omega
  · have hq : n - i = 0 := by omega
    rw [hq] at hrows ⊢
    have hin : i = n := by omega
    have er : rows n l0 = (ps, 0, l1) := by rw [hrows]; simp [rows]
    rw [er]
    simp only
    subst hin
    rw [show zz (4 * 0) = [] from rfl, List.append_nil, ← hps]
    rw [if_neg (by simp)]
    repeat'(first|refine kv' ?_|apply jJ|refine jE' ?_|refine jp' ?_|(apply jc;kernel_rfl)|refine kg' ?_|refine kG' ?_|refine kB' fun _=>?_|refine kA' fun _=>?_|refine kK' fun _=>?_|refine kU' ?_|(apply LR.call; (· exact rfl); (intro w1 h1; refine (c28 _ _ ps w1 (h1.rd_of_blk (cs := pcs ps) (List.Mem.head _)) (by omega) hpi).mono ?_; rintro v w2 ⟨a2, c2, rfl, hn⟩; refine LR.back (h1.newSl hn) ?_; clear hn h1))|(apply LR.qcall; (· exact rfl); (· intro w1 h1; exact CallsTo.q (c68 br a1 c1 l1 w1 (h1.holds _ (List.Mem.tail _ (List.Mem.tail _ (List.Mem.head _))))) h1))|((first|refine kR' ?_ ?_|refine kQ' ?_ ?_);all_goals(intro hc;try simp only[hcs]at hc;try(exfalso;first|contradiction|omega))))
    · (apply ret2; (· exact rfl); intro w' hS)
      rw [if_pos (.inl hc)]
      exact ⟨none, 0, rfl, nils w' hS.toKeep⟩
    · rename (charts ps).2 = 0 => h0
      (apply ret2; (· exact rfl); intro w' hS)
      rw [if_pos (.inr (by omega))]
      exact ⟨none, 0, rfl, nils w' hS.toKeep⟩
    · rename (charts ps).2 = 0 => h0
      (apply ret2; (· exact rfl); intro w' hS)
      rw [if_neg (by simp only [not_or, Nat.not_lt]; exact ⟨by simpa using h0, by omega⟩)]
      exact ⟨some ⟨bs, 0, none⟩, ps.length, rfl, (hS.own_osl (Sel.tail _ (Sel.head _ _ _)) (pcs_length ps) (by unfold maxLen; omega)).toNew (List.Mem.tail _ (List.Mem.head _))⟩
end Go.Proofs.Ytphcnaafhcfakaa

namespace Go.Proofs.Ytphcnaafhcfakaa
open Go.Hb
attribute [local irreducible] LR CW At Ev thn blk finK noG again CallsTo DW QL dnext
set_option maxRecDepth 100000

theorem nilSl {w0 w : World} {F : Nat → Prop} {L : List Asrt} (E sz : Nat) (h : St w0 F L w) : St w0 F (osl (.slice none 0 0) E sz 0 [] :: L) w :=
  h.push (Grew.refl w) (World.ownsRow_nil w 0 E sz) (fun k hk => by simp [osl, Asrt.foot, Value.ownBlock] at hk) (osl.dep _ _ _ _ _)
def psl (a : Option Addr) (c : Nat) (ps : List Plc) : Asrt := osl (.slice a ps.length c) 70 4 ps.length (pcs ps)

set_option maxHeartbeats 2000000 in
theorem c26 (a : Option Addr) (ca : Nat) (l : List Int) (w : World) (hr : Rd w a (bv l)) (hz : a = none → ca = 0) (hm : l.length ≤ 140737488355328) (hb : Byt l) :
    CallsTo Try.prog 97 [.slice a l.length ca] w fun v w' => ∃ a2 c2, v = .tuple [.slice a2 (places l).1.length c2, .int .i64 (places l).2].toArray ∧ NewSl w w' (.slice a2 (places l).1.length c2) 70 4 (places l).1.length (pcs (places l).1) := by
  refine go_in (n := 73) (St.rd1 hr) Try.func97 rfl rfl ?_
  have nils : ∀ w', Grew w w' → NewSl w w' (.slice none 0 0) 70 4 0 (pcs []) := fun w' hg => ⟨hg, World.ownsRow_nil _ _ _ _⟩
  repeat'(first|refine kv' ?_|apply jJ|refine jE' ?_|refine jp' ?_|(apply jc;kernel_rfl)|refine kg' ?_|refine kG' ?_|refine kB' fun _=>?_|refine kA' fun _=>?_|refine kK' fun _=>?_|refine kU' ?_|(apply LR.call; (· exact rfl); (intro w1 h1; first | (refine (c69 a ca l w1 (h1.rd_of (List.Mem.head _)) hz hm).mono ?_; rintro v w2 ⟨br, a1, c1, rfl, hn⟩; refine LR.back (h1.got hn (rrA_dep _ _ _ _ _ _)) ?_; clear hn h1) | (refine (c70 _ _ _ l w1 (h1.holds _ (List.Mem.head _)) hb (by omega)).mono ?_; rintro v w2 ⟨a2, c2, rfl, st⟩; refine LR.back (h1.did (Sel.head _ _ _) rfl st (rrA_dep _ _ _ _ _ _)) ?_; clear st h1)))|((first|refine kR' ?_ ?_|refine kQ' ?_ ?_);all_goals(intro hc;try simp only[hcs]at hc;try(exfalso;first|contradiction|omega))))
  · (apply ret2; (· exact rfl); intro w' hS)
    have e : places l = ([], (dec l).2.2) := by unfold places; rw [if_pos hc]
    rw [e]
    exact ⟨none, 0, rfl, nils w' hS.toKeep⟩
  · rename (dec l).2.2 = 0 => hd
    (apply ret2; (· exact rfl); intro w' hS)
    have e : places l = ([], 5) := by unfold places; rw [if_neg (by simpa using hd), if_pos (by omega)]
    rw [e]
    exact ⟨none, 0, rfl, nils w' hS.toKeep⟩
  rename (dec l).2.2 = 0 => hd
  rename ((dec l).1 : Int) ≤ 4 => h4
  have hdl := dec_le l
  have ep : places l = if (rows (dec l).1 (l.drop (dec l).2.1)).2.1 ≠ 0 then ([], (rows (dec l).1 (l.drop (dec l).2.1)).2.1)
    else if (charts (rows (dec l).1 (l.drop (dec l).2.1)).1).2 ≠ 0 ∨ 0 < (rows (dec l).1 (l.drop (dec l).2.1)).2.2.length then ([], 4)
    else ((rows (dec l).1 (l.drop (dec l).2.1)).1, 0) := by
    unfold places; rw [if_neg (by simpa using hd), if_neg (by omega)]
  have hb0 : Byt (l.drop (dec l).2.1) := hb.drop _
  have hm0 : (l.drop (dec l).2.1).length ≤ 140737488355328 := by simp; omega
  rw [ep]
  clear ep hd
  generalize l.drop (dec l).2.1 = l0 at *
  generalize (dec l).1 = n at *
  have h4' : n ≤ 4 := by omega
  apply CW.loop [2, 3, 7, 8, 9, 10, 11, 12, 27, 28, 29, 30, 31, 32, 33, 34, 35, 36, 37, 38, 39, 40, 41, 42, 43, 44, 45, 46, 47, 48, 49, 50, 51, 52, 53, 54, 55, 56, 57, 58, 59] (fun s : Nat × (Option Addr × Nat) × (Option Addr × Nat) × List Plc × List Int => s.1 ≤ n ∧ s.2.2.2.1.length = s.1 ∧ plcsI s.2.2.2.1 ∧ Byt s.2.2.2.2 ∧ s.2.2.2.2.length ≤ 140737488355328 ∧ rows n l0 = (s.2.2.2.1 ++ (rows (n - s.1) s.2.2.2.2).1, (rows (n - s.1) s.2.2.2.2).2)) (fun s => [(8, Value.int .i64 (s.1 : Int)), (7, .slice s.2.2.1.1 s.2.2.2.1.length s.2.2.1.2)])
    (fun s => St w NoF [psl s.2.2.1.1 s.2.2.1.2 s.2.2.2.1, rrA 156 [] br s.2.1.1 s.2.1.2 s.2.2.2.2]) (fun s => n - s.1)
  · exact fun w' hw' => ⟨(0, (a2, c2), (none, 0), [], l0), ⟨by simp, rfl, fun p hp => by simp at hp, hb0, hm0, by simp⟩, ⟨rfl, rfl, trivial⟩, (nilSl 70 4 hw').sub (List.Sublist.cons_cons _ (List.Sublist.cons_cons _ (List.nil_sublist _)))⟩
  rintro ⟨i, ⟨a1, c1⟩, ⟨ao, co⟩, ps, l1⟩ g ⟨hi, hps, hpi, hb1, hm1, hrows⟩
  simp only at hi hps hpi hb1 hm1 hrows ⊢
  by_cases hlt : i < n
  · obtain ⟨q, hq⟩ : ∃ q, n - i = q + 1 := ⟨n - i - 1, by omega⟩
    rw [hq] at hrows
    repeat'(first|refine kv' ?_|apply jJ|refine jE' ?_|refine jp' ?_|(apply jc;kernel_rfl)|refine kg' ?_|refine kG' ?_|refine kB' fun _=>?_|refine kA' fun _=>?_|refine kK' fun _=>?_|refine kU' ?_|((first|refine kR' ?_ ?_|refine kQ' ?_ ?_);all_goals(intro hc;try simp only[hcs]at hc;try(exfalso;first|contradiction|omega))))
    rename_i ba
    apply CW.loop [2, 3, 10, 11, 12, 32, 33, 34, 35, 36, 37, 38, 39, 40, 41, 42, 43, 44, 45, 46] (fun s : Nat × (Option Addr × Nat) × List Int × List Int => s.1 ≤ 4 ∧ s.2.2.1.length = s.1 ∧ Byt s.2.2.2 ∧ s.2.2.2.length ≤ 140737488355328 ∧ decs 4 l1 = (s.2.2.1 ++ (decs (4 - s.1) s.2.2.2).1, (decs (4 - s.1) s.2.2.2).2)) (fun s => [(10, Value.int .i64 (s.1 : Int))])
      (fun s => St w NoF [.own ba (.cells (iv s.2.2.1 ++ zz (4 - s.1)).toArray 144 (0, 0)), psl ao co ps, rrA 156 [] br s.2.1.1 s.2.1.2 s.2.2.2]) (fun s => 4 - s.1)
    · exact fun w' hw' => ⟨(0, (a1, c1), [], l1), ⟨by simp, rfl, hb1, hm1, by simp⟩, ⟨rfl, trivial⟩, hw'⟩
    rintro ⟨k, ⟨a3, c3⟩, vs, l3⟩ g3 ⟨hk, hvs, hb3, hm3, hdec⟩
    simp only at hk hvs hb3 hm3 hdec ⊢
    by_cases hlt3 : k < 4
    · obtain ⟨q3, hq3⟩ : ∃ q, 4 - k = q + 1 := ⟨4 - k - 1, by omega⟩
      rw [hq3] at hdec ⊢
      repeat'(first|refine kv' ?_|apply jJ|refine jE' ?_|refine jp' ?_|(apply jc;kernel_rfl)|refine kg' ?_|refine kG' ?_|refine kB' fun _=>?_|refine kA' fun _=>?_|refine kK' fun _=>?_|refine kU' ?_|(apply LR.ev; (· apply Ev.indexArr; (· exact rfl); (· exact rfl); (· first | decide | omega | (dsimp only; omega)); (· first | decide | omega | (dsimp only; omega))); (· exact rfl))|(apply LR.call; (· exact rfl); (intro w1 h1; refine (c70 _ _ _ l3 w1 (h1.holds _ (List.Mem.tail _ (List.Mem.tail _ (List.Mem.head _)))) hb3 (by omega)).mono ?_; rintro v w2 ⟨a4, c4, rfl, st⟩; refine LR.back (h1.did (Sel.tail _ (Sel.tail _ (Sel.head _ _ _))) rfl st (rrA_dep _ _ _ _ _ _)) ?_; clear st h1))|((first|refine kR' ?_ ?_|refine kQ' ?_ ?_);all_goals(intro hc;try simp only[hcs]at hc;try(exfalso;first|contradiction|omega))))
      · (apply ret2; (· exact rfl); intro w' hS)
        have e : decs 4 l1 = (vs, (dec l3).2.2, l3.drop (dec l3).2.1) := by rw [hdec]; simp only [decs, if_pos hc, List.append_nil]
        have e2 : rows (q + 1) l1 = ([], (decs 4 l1).2.1, (decs 4 l1).2.2) := by rw [rows, if_pos (by rw [e]; exact hc)]
        rw [hrows, e2, e]
        simp only [List.append_nil]
        rw [if_pos hc]
        exact ⟨none, 0, rfl, nils w' hS.toKeep⟩
      · refine LR.store_obj (v := .int .i64 ((dec l3).1 : Int)) (z' := .own ba (.cells (iv (vs ++ [((dec l3).1 : Int)]) ++ zz q3).toArray 144 (0, 0))) rfl rfl (Sel.head _ _ _) rfl ?_ (Asrt.dep_own _ _) ?_
        · have st := Stores.own (P := Try.prog) (T := 3) (m := 1) (b := ba) (o := 0 + (k : Int).toNat * 1) (v := .int .i64 ((dec l3).1 : Int)) (cs := iv vs ++ zz (q3 + 1)) (vs := [.int .i64 ((dec l3).1 : Int)]) (E := 144) inferInstance rfl rfl rfl (by
            simp [hvs, zz])
          have e2 : zz (q3 + 1) = .int .i64 0 :: zz q3 := rfl
          rw [e2, splice_mid _ _ _ _ (by simp [hvs])] at st
          rw [e2]
          simpa [iv] using st
        repeat'(first|refine kv' ?_|apply jJ|refine jE' ?_|refine jp' ?_|(apply jc;kernel_rfl)|refine kg' ?_|refine kG' ?_|refine kB' fun _=>?_|refine kA' fun _=>?_|refine kK' fun _=>?_|refine kU' ?_|(apply addX;(iterate 2 exact rfl);(iterate 2(first|omega|(dsimp only;omega)));exact rfl)|((first|refine kR' ?_ ?_|refine kQ' ?_ ?_);all_goals(intro hc;try simp only[hcs]at hc;try(exfalso;first|contradiction|omega))))
        apply At.again (k + 1, (a4, c4), vs ++ [((dec l3).1 : Int)], l3.drop (dec l3).2.1)
        · refine ⟨by show k + 1 ≤ _; omega, by simp [hvs], hb3.drop _, by simp; omega, ?_⟩
          show decs 4 l1 = _
          have e : decs (q3 + 1) l3 = ((((dec l3).1 : Nat) : Int) :: (decs q3 (l3.drop (dec l3).2.1)).1, (decs q3 (l3.drop (dec l3).2.1)).2) := by rw [decs, if_neg (by simpa using hc)]
          rw [hdec, e, show 4 - (k + 1) = q3 by omega]
          simp
        · (repeat (first | exact Out.refl _ _ | exact Out.mix | (apply Out.upd; (· exact rfl)) | (apply Out.updL; (· exact rfl)) | (apply Out.mixs; (· exact rfl))))
        · exact ⟨rfl, trivial⟩
        · intro w' hw'
          simp only [show 4 - (k + 1) = q3 by omega]
          exact hw'
        · show 4 - (k + 1) < 4 - k; omega
    · have hk4 : k = 4 := by omega
      subst hk4
      have hd4 : decs 4 l1 = (vs, 0, l3) := by rw [hdec]; simp [decs]
      obtain ⟨v0, v1, v2, v3, rfl⟩ := four hvs
      have hvb := decs_bound 4 l1
      rw [hd4] at hvb
      have e2 : rows (q + 1) l1 = (plcOf [v0, v1, v2, v3] :: (rows q l3).1, (rows q l3).2) := by rw [rows, hd4, if_neg (by simp)]
      rw [e2] at hrows
      repeat'(first|refine kv' ?_|apply jJ|refine jE' ?_|refine jp' ?_|(apply jc;kernel_rfl)|refine kg' ?_|refine kG' ?_|refine kB' fun _=>?_|refine kA' fun _=>?_|refine kK' fun _=>?_|refine kU' ?_|(apply LR.ev; (· apply Ev.indexArr; (· exact rfl); (· exact rfl); (· first | decide | omega | (dsimp only; omega)); (· first | decide | omega | (dsimp only; omega))); (· exact rfl))|(refine LR.append (L' := fun a' c' => [_, _, osl (.slice a' (ps.length + 1) c') 70 4 (ps.length + 1) (pcs ps ++ (plcOf [v0, v1, v2, v3]).cells), _]) (xs := pcs ps) rfl rfl (fun a' c' => Sel.tail _ (Sel.tail _ (Sel.head _ _ _))) (fun w' hw' => hw'.rd_of_blk (List.Mem.head _)) (fun hx => by cases hx) rfl rfl (by omega) (by unfold maxLen; omega) rfl ?_; intro a5 c5)|(apply addX;(iterate 2 exact rfl);(iterate 2(first|omega|(dsimp only;omega)));exact rfl)|((first|refine kR' ?_ ?_|refine kQ' ?_ ?_);all_goals(intro hc;try simp only[hcs]at hc;try(exfalso;first|contradiction|omega))))
      have el : (ps ++ [plcOf [v0, v1, v2, v3]]).length = ps.length + 1 := by simp
      apply At.again (i + 1, (a3, c3), (a5, c5), ps ++ [plcOf [v0, v1, v2, v3]], l3)
      · refine ⟨by show i + 1 ≤ _; omega, by simp [hps], ?_, hb3, hm3, ?_⟩
        · intro p hp
          simp only [List.mem_append, List.mem_singleton] at hp
          rcases hp with hp | rfl
          · exact hpi p hp
          · exact plcOf_i64 hvb
        · show rows n l0 = _
          rw [hrows, show n - (i + 1) = q by omega]
          simp
      · (repeat (first | exact Out.refl _ _ | exact Out.mix | (apply Out.upd; (· exact rfl)) | (apply Out.updL; (· exact rfl)) | (apply Out.mixs; (· exact rfl))))
      · simp only [el]
        exact ⟨rfl, rfl, trivial⟩
      · intro w' hw'
        refine hw'.tail1.tail1.cast ?_
        have ep2 : pcs ps ++ (plcOf [v0, v1, v2, v3]).cells = pcs (ps ++ [plcOf [v0, v1, v2, v3]]) := by simp [pcs]
        simp only [psl, el, ep2]
      · show n - (i + 1) < n - i; omega
  · have hq : n - i = 0 := by omega
    rw [hq] at hrows
    have hin : i = n := by omega
    have er : rows n l0 = (ps, 0, l1) := by rw [hrows]; simp [rows]
    rw [er]
    simp only
    subst hin
    rw [if_neg (by simp)]
    repeat'(first|refine kv' ?_|apply jJ|refine jE' ?_|refine jp' ?_|(apply jc;kernel_rfl)|refine kg' ?_|refine kG' ?_|refine kB' fun _=>?_|refine kA' fun _=>?_|refine kK' fun _=>?_|refine kU' ?_|(apply LR.call; (· exact rfl); (intro w1 h1; refine (c29 _ _ ps w1 (h1.rd_of_own (List.Mem.head _)) (by omega) hpi).mono ?_; rintro v w2 ⟨a2, c2, rfl, hn⟩; refine LR.back (h1.newSl hn) ?_; clear hn h1))|(apply LR.qcall; (· exact rfl); (· intro w1 h1; exact CallsTo.q (c72 br a1 c1 l1 w1 (h1.holds _ (List.Mem.tail _ (List.Mem.tail _ (List.Mem.head _))))) h1))|((first|refine kR' ?_ ?_|refine kQ' ?_ ?_);all_goals(intro hc;try simp only[hcs]at hc;try(exfalso;first|contradiction|omega))))
    · (apply ret2; (· exact rfl); intro w' hS)
      rw [if_pos (.inl hc)]
      exact ⟨none, 0, rfl, nils w' hS.toKeep⟩
    · rename (charts ps).2 = 0 => h0
      (apply ret2; (· exact rfl); intro w' hS)
      rw [if_pos (.inr (by omega))]
      exact ⟨none, 0, rfl, nils w' hS.toKeep⟩
    · rename (charts ps).2 = 0 => h0
      (apply ret2; (· exact rfl); intro w' hS)
      rw [if_neg (by simp only [not_or, Nat.not_lt]; exact ⟨by simpa using h0, by omega⟩)]
      exact ⟨ao, co, rfl, hS.toNew (List.Mem.tail _ (List.Mem.head _))⟩
end Go.Proofs.Ytphcnaafhcfakaa

namespace Go.Proofs.Ytphcnaafhcfakaa
open Go.Hb
attribute [local irreducible] LR CW At Ev thn blk finK noG again CallsTo DW QL dnext
set_option maxRecDepth 100000

instance : MapOf Try.prog 118 .i64 .nilFunc := ⟨⟨3, 116, Try.underlying118, Try.underlying3, Try.zeroValue116⟩⟩
def ruleL : List (Int × Value) := [(1, .func (.func 88) #[] #[]), (2, .func (.func 89) #[] #[]), (3, .func (.func 90) #[] #[]), (4, .func (.func 91) #[] #[]), (5, .func (.func 92) #[] #[])]

theorem c58 (w : World) : CallsTo Try.prog 68 [] w fun v w' => ∃ b, v = .map (some b) ∧ New1 (.own b (mapObj .i64 ruleL)) w w' := by
  refine go_in (n := 3) (St.refl _ NoF) Try.func68 rfl rfl ?_
  repeat'(first|refine kv' ?_|apply jJ|refine jE' ?_|refine jp' ?_|(apply jc;kernel_rfl)|refine kg' ?_|refine kG' ?_|refine kB' fun _=>?_|refine kA' fun _=>?_|refine kK' fun _=>?_|refine kU' ?_|(apply LR.makeMap; (· exact rfl); intro b)|(refine LR.insert rfl rfl rfl (Sel.head _ _ _) rfl ?_)|((first|refine kR' ?_ ?_|refine kQ' ?_ ?_);all_goals(intro hc;try simp only[hcs]at hc;try(exfalso;first|contradiction|omega))))
  (apply ret1; (· exact rfl); intro w' hS)
  exact ⟨b, rfl, (hS.cast (L' := [.own b (mapObj .i64 ruleL)]) rfl).new1 rfl⟩
end Go.Proofs.Ytphcnaafhcfakaa

namespace Go.Proofs.Ytphcnaafhcfakaa
open Go.Hb
attribute [local irreducible] LR CW At Ev thn blk finK noG again CallsTo DW QL dnext
set_option maxRecDepth 100000

def chartB (m : Msg) : Bool := plainB m && decide (m.id = 0) && decide ((places m.body).2 = 0)
theorem c93 (m : Msg) (a : Option Addr) (c : Nat) (w : World) (hr : Rd w a (bv m.body)) (hz : a = none → c = 0) (hm : m.body.length ≤ 140737488355328) (hb : Byt m.body) :
    CallsTo Try.prog 91 [m.val a c] w fun v w' => v = .bool (chartB m) ∧ Grew w w' := by
  refine go_in (n := 22) (St.rd1 hr) Try.func91 rfl rfl ?_
  unfold chartB
  repeat'(first|refine kv' ?_|apply jJ|refine jE' ?_|refine jp' ?_|(apply jc;kernel_rfl)|refine kg' ?_|refine kG' ?_|refine kB' fun _=>?_|refine kA' fun _=>?_|refine kK' fun _=>?_|refine kU' ?_|(apply LR.call; (· exact rfl); (intro w1 h1; refine (c25 a c m.body w1 (h1.rd_of (List.Mem.tail _ (List.Mem.head _))) hz hm hb).mono ?_; rintro v w2 ⟨a2, c2, rfl, hn⟩; refine LR.back (h1.newSl hn) ?_; clear hn h1))|(apply LR.qcall; (· exact rfl); (· intro w1 h1; have hq := CallsTo.q (c103 m a c w1) h1; show CallsTo Try.prog 108 [m.val a c] w1 _; exact hq))|((first|refine kR' ?_ ?_|refine kQ' ?_ ?_);all_goals(intro hc;try simp only[hcs]at hc;try(exfalso;first|contradiction|omega))))
  all_goals (
    (apply ret1; (· exact rfl); intro w' hS)
    refine ⟨congrArg Value.bool ?_, hS.toKeep⟩
    simp_all)

def zeroMsg : Msg := ⟨0, 0, 0, 0, 0, 0, 0, false, 0, 0, 0, 0, []⟩
def oldB (u : List Int → Msg × Int) (m : Msg) : Bool :=
  plainB m && decide (1 ≤ m.id ∧ m.id ≤ 8 ∧ ¬ (m.rseq = 0 ∧ m.rrep = 0) ∧ 0 < m.kseq ∧ (u m.body).2 = 0 ∧ (u m.body).1.kind ≠ 5)
def kindB (u : List Int → Msg × Int) (m : Msg) : Bool :=
  if m.kind = 1 then textB m else if m.kind = 2 then emptyB m else if m.kind = 3 then wantB m else if m.kind = 4 then chartB m else if m.kind = 5 then oldB u m else false
def mayB (u : List Int → Msg × Int) (m : Msg) : Bool :=
  decide (1 ≤ m.kind ∧ m.kind ≤ 5) && withinB m.origin 1 8 && withinB m.life 0 9007199254740991 && withinB m.id 0 9007199254740991 && withinB m.groups 0 255 && decide (keyE m.stamp m.rseq m.rrep m.kseq = 0) && kindB u m
def checkM (u : List Int → Msg × Int) (m : Msg) : Int := if 160 < m.body.length then 5 else if mayB u m then 0 else 2
def msgOf (v x : List Int) (b : List Int) : Msg := ⟨v.getD 0 0, v.getD 1 0, v.getD 2 0, v.getD 3 0, v.getD 4 0, v.getD 5 0, v.getD 6 0, decide (v.getD 7 0 = 1), x.getD 0 0, x.getD 1 0, x.getD 2 0, x.getD 3 0, b⟩
def unpackW (ck : Msg → Int) (l : List Int) : Msg × Int :=
  if (decs 8 l).2.1 ≠ 0 then (zeroMsg, (decs 8 l).2.1)
  else if 1 < (decs 8 l).1.getD 7 0 then (zeroMsg, 4)
  else if (decs 4 (decs 8 l).2.2).2.1 ≠ 0 then (zeroMsg, (decs 4 (decs 8 l).2.2).2.1)
  else if (octs 160 (decs 4 (decs 8 l).2.2).2.2).2.1 ≠ 0 then (zeroMsg, (octs 160 (decs 4 (decs 8 l).2.2).2.2).2.1)
  else if 0 < (octs 160 (decs 4 (decs 8 l).2.2).2.2).2.2.length ∨ ck (msgOf (decs 8 l).1 (decs 4 (decs 8 l).2.2).1 (octs 160 (decs 4 (decs 8 l).2.2).2.2).1) ≠ 0 then (zeroMsg, 4)
  else (msgOf (decs 8 l).1 (decs 4 (decs 8 l).2.2).1 (octs 160 (decs 4 (decs 8 l).2.2).2.2).1, 0)
def unpackF : Nat → List Int → Msg × Int
  | 0 => unpackW fun _ => 2
  | k + 1 => unpackW (checkM (unpackF k))

def UnpC (g : Nat) (K : Nat) : Prop := ∀ (a : Option Addr) (ca : Nat) (l : List Int) (w : World), Rd w a (bv l) → (a = none → ca = 0) → l.length ≤ 140737488355328 → Byt l → l.length ≤ K →
  CallsTo Try.prog g [.slice a l.length ca] w fun v w' => ∃ a2 c2, v = .tuple [(unpackF K l).1.val a2 c2, .int .i64 (unpackF K l).2].toArray ∧ NewSl w w' (.slice a2 (unpackF K l).1.body.length c2) 5 1 (unpackF K l).1.body.length (bv (unpackF K l).1.body)

theorem c94 {K : Nat} (hU : UnpC 110 K) (m : Msg) (a : Option Addr) (c : Nat) (w : World) (hr : Rd w a (bv m.body)) (hz : a = none → c = 0) (hm : m.body.length ≤ 140737488355328) (hb : Byt m.body) (hK : m.body.length ≤ K) :
    CallsTo Try.prog 92 [m.val a c] w fun v w' => v = .bool (oldB (unpackF K) m) ∧ Grew w w' := by
  refine go_in (n := 40) (St.rd1 hr) Try.func92 rfl rfl ?_
  unfold oldB
  repeat'(first|refine kv' ?_|apply jJ|refine jE' ?_|refine jp' ?_|(apply jc;kernel_rfl)|refine kg' ?_|refine kG' ?_|refine kB' fun _=>?_|refine kA' fun _=>?_|refine kK' fun _=>?_|refine kU' ?_|(apply LR.call; (· exact rfl); (intro w1 h1; refine (hU a c m.body w1 (h1.rd_of (List.Mem.tail _ (List.Mem.head _))) hz hm hb hK).mono ?_; rintro v w2 ⟨a2, c2, rfl, hn⟩; refine LR.back (h1.newSl hn) ?_; clear hn h1))|(apply LR.qcall; (· exact rfl); (· intro w1 h1; have hq := CallsTo.q (c103 m a c w1) h1; show CallsTo Try.prog 108 [m.val a c] w1 _; exact hq))|(apply kq;(·exact rfl);(·intro w1 h1;exact CallsTo.q (c59 _ _ _ w1) h1))|((first|refine kR' ?_ ?_|refine kQ' ?_ ?_);all_goals(intro hc;try simp only[hcs]at hc;try(exfalso;first|contradiction|omega))))
  all_goals (
    (apply ret1; (· exact rfl); intro w' hS)
    refine ⟨congrArg Value.bool ?_, hS.toKeep⟩
    simp_all [withinB_iff] <;> (intros; omega))

theorem rule_known {K : Nat} (hU : UnpC 110 K) (m : Msg) (a : Option Addr) (c : Nat) (h1 : 1 ≤ m.kind) (h5 : m.kind ≤ 5) (hz : a = none → c = 0) (hm : m.body.length ≤ 140737488355328) (hb : Byt m.body) (hK : m.body.length ≤ K) :
    ∃ j g, findI m.kind ruleL 0 = some (j, .func (.func g) #[] #[]) ∧ Own Try.prog g ∧ ∀ w1, Rd w1 a (bv m.body) → CallsTo Try.prog g [m.val a c] w1 fun v w' => v = .bool (kindB (unpackF K) m) ∧ Grew w1 w' := by
  have : m.kind = 1 ∨ m.kind = 2 ∨ m.kind = 3 ∨ m.kind = 4 ∨ m.kind = 5 := by omega
  unfold kindB
  rcases this with h | h | h | h | h <;> simp only [h, findI, ruleL]
  · exact ⟨0, 88, rfl, inferInstance, fun w1 _ => by simpa using c90 m a c w1⟩
  · exact ⟨1, 89, rfl, inferInstance, fun w1 _ => by simpa using c91 m a c w1⟩
  · exact ⟨2, 90, rfl, inferInstance, fun w1 _ => by simpa using c92 m a c w1⟩
  · exact ⟨3, 91, rfl, inferInstance, fun w1 hr => by simpa using c93 m a c w1 hr hz hm hb⟩
  · exact ⟨4, 92, rfl, inferInstance, fun w1 hr => by simpa using c94 hU m a c w1 hr hz hm hb hK⟩
theorem rule_none (m : Msg) (h : ¬ (1 ≤ m.kind ∧ m.kind ≤ 5)) : findI m.kind ruleL 0 = none := by
  have : ∀ x ∈ [1, 2, 3, 4, 5], m.kind ≠ x := by intro x hx; simp at hx; omega
  simp [findI, ruleL, this 1, this 2, this 3, this 4, this 5]

set_option maxHeartbeats 2000000 in
theorem c17 {K : Nat} (hU : UnpC 110 K) (m : Msg) (a : Option Addr) (c : Nat) (w : World) (hr : Rd w a (bv m.body)) (hz : a = none → c = 0) (hm : m.body.length ≤ 140737488355328) (hb : Byt m.body) (hK : m.body.length ≤ 160 → m.body.length ≤ K) :
    CallsTo Try.prog 43 [m.val a c] w fun v w' => v = .int .i64 (checkM (unpackF K) m) ∧ Grew w w' := by
  refine go_in (n := 54) (St.rd1 hr) Try.func43 rfl rfl ?_
  repeat'(first|(apply CW.reg_held (St w NoF [.own _ (.cells (m.cells a c).toArray 28 (0, 0)), rdA a (bv m.body)]); apply DW.quiet [1, 2]; (· kernel_rfl); (· exact fun _ h => h))|refine kv' ?_|apply jJ|refine jE' ?_|refine jp' ?_|(apply jc;kernel_rfl)|refine kg' ?_|refine kG' ?_|refine kB' fun _=>?_|refine kA' fun _=>?_|refine kK' fun _=>?_|refine kU' ?_|((first|refine kR' ?_ ?_|refine kQ' ?_ ?_);all_goals(intro hc;try simp only[hcs]at hc;try(exfalso;first|contradiction|omega))))
  · (apply ret1; (· exact rfl); intro w' hS)
    refine ⟨congrArg (Value.int .i64) ?_, hS.toKeep⟩
    unfold checkM; rw [if_pos (by omega)]
  rename _ => h160
  repeat'(first|refine yv' ?_|refine uv' ?_|refine un' ?_|apply QL.nil)
  apply DW.loud 0; (· exact rfl); (· kernel_rfl)
  apply LR.call
  · exact rfl
  intro w1 h1
  refine (c58 w1).mono ?_
  rintro v w2 ⟨bm, rfl, hn⟩
  refine LR.back (h1.got hn (Asrt.dep_own _ _)) ?_
  clear hn h1
  apply LR.nil
  refine At.stage (fun _ h => h.tail1) (fun _ h => h) ?_
  apply DW.quiet [3, 4, 5, 6, 7, 8]; (· kernel_rfl); (· exact fun _ h => h)
  have hKK := hK (by omega)
  by_cases hk : 1 ≤ m.kind ∧ m.kind ≤ 5
  · obtain ⟨j, g, hf, hown, hrule⟩ := rule_known hU m a c hk.1 hk.2 hz hm hb hKK
    repeat'(first|refine yv' ?_|(apply QL.ev; (· exact rfl); (· apply Ev.lookup_ok; (· exact rfl); (· exact rfl); (· exact List.Mem.head _); (· exact hf)); (· exact rfl))|refine uv' ?_|refine un' ?_|apply QL.nil)
    apply DW.done_thn
    · kernel_rfl
    repeat'(first|refine kv' ?_|apply jJ|refine jE' ?_|refine jp' ?_|(apply jc;kernel_rfl)|refine kg' ?_|refine kG' ?_|refine kB' fun _=>?_|refine kA' fun _=>?_|refine kK' fun _=>?_|refine kU' ?_|(apply kq;(·exact rfl);(·intro w1 h1;exact CallsTo.q (c59 _ _ _ w1) h1))|(apply kq;(·exact rfl);(·intro w1 h1;exact CallsTo.q (c60 _ _ _ _ w1) h1))|(apply LR.qcall_fn (g := g); (· exact rfl); (· exact rfl); (· intro w1 h1; have hq := CallsTo.q (hrule w1 (h1.rd_of (List.Mem.tail _ (List.Mem.tail _ (List.Mem.head _))))) h1; show CallsTo Try.prog g [m.val a c] w1 _; exact hq))|((first|refine kR' ?_ ?_|refine kQ' ?_ ?_);all_goals(intro hc;try simp only[hcs]at hc;try(exfalso;first|contradiction|omega))))
    all_goals (
      (apply ret1; (· exact rfl); intro w' hS)
      refine ⟨congrArg (Value.int .i64) ?_, hS.toKeep⟩
      unfold checkM mayB
      rw [if_neg (by omega)]
      simp [*])
  · have hf := rule_none m hk
    repeat'(first|refine yv' ?_|(apply QL.ev; (· exact rfl); (· apply Ev.lookup_ok; (· exact rfl); (· exact rfl); (· exact List.Mem.head _); (· exact hf)); (· exact rfl))|refine uv' ?_|refine un' ?_|apply QL.nil)
    apply DW.done_thn
    · kernel_rfl
    repeat'(first|refine kv' ?_|apply jJ|refine jE' ?_|refine jp' ?_|(apply jc;kernel_rfl)|refine kg' ?_|refine kG' ?_|refine kB' fun _=>?_|refine kA' fun _=>?_|refine kK' fun _=>?_|refine kU' ?_|((first|refine kR' ?_ ?_|refine kQ' ?_ ?_);all_goals(intro hc;try simp only[hcs]at hc;try(exfalso;first|contradiction|omega))))
    all_goals (
      (apply ret1; (· exact rfl); intro w' hS)
      refine ⟨congrArg (Value.int .i64) ?_, hS.toKeep⟩
      unfold checkM mayB
      rw [if_neg (by omega)]
      simp [*])
end Go.Proofs.Ytphcnaafhcfakaa

namespace Go.Proofs.Ytphcnaafhcfakaa
open Go.Hb
attribute [local irreducible] LR CW At Ev thn blk finK noG again CallsTo DW QL dnext
set_option maxRecDepth 100000

theorem front_perm {α : Type} : ∀ (L : List α) (i : Nat) (hi : i < L.length), L.Perm (L[i] :: L.eraseIdx i)
  | x :: r, 0, _ => List.Perm.refl _
  | x :: r, i + 1, hi => ((front_perm r i (by simpa using hi)).cons x).trans (List.Perm.swap _ _ _)
theorem front {w0 w : World} {F : Nat → Prop} {L L' : List Asrt} (h : St w0 F L w) (i : Nat) (hi : Nat.blt i L.length = true) (e : L[i]'(blt_lt hi) :: L.eraseIdx i = L') : St w0 F L' w := (h.perm (front_perm L i (blt_lt hi))).cast e
theorem decF_pos : ∀ k i acc l, (decF k i acc l).2.2 = 0 → i + 1 ≤ (decF k i acc l).2.1
  | 0, i, acc, l => by simp [decF]
  | k + 1, i, acc, [] => by simp [decF]
  | k + 1, i, acc, x :: r => by
    unfold decF
    split
    · split
      · simp
      · simp
    · intro h
      have := decF_pos k (i + 1) (acc + x.toNat % 128 * 128 ^ i) r h
      omega
theorem octs_facts {most : Int} {l : List Int} (h : (octs most l).2.1 = 0) : (octs most l).1.length < l.length ∧ ∀ b ∈ (octs most l).1, b ∈ l := by
  unfold octs at *
  split at h
  · rename_i h0; exact (h0 h).elim
  · rename_i h0
    have hp := decF_pos 8 0 0 l (by simpa [dec] using h0)
    have hl := dec_le l
    split at h
    · cases h
    · split at h
      · cases h
      · rename_i h1 h2
        have hp' : 1 ≤ (dec l).2.1 := by have : (dec l).2.1 = (decF 8 0 0 l).2.1 := rfl; omega
        rw [if_neg h0, if_neg h1, if_neg h2]
        refine ⟨by simp; omega, fun b hb => List.mem_of_mem_drop (List.mem_of_mem_take hb)⟩
def T2 (bm : Nat) (hd : List Value) (vs : List Int) : Asrt := .own bm (.cells (hd ++ iv vs ++ zz (4 - vs.length) ++ [Value.slice none 0 0]).toArray 28 (0, 0))
theorem T2_stores (bm : Nat) (hd : List Value) (h8 : hd.length = 8) (vs : List Int) (x : Int) (hi : vs.length < 4) : Stores Try.prog 3 ⟨bm, 8 + vs.length, none⟩ (.int .i64 x) (T2 bm hd vs) (T2 bm hd (vs ++ [x])) := by
  have e2 : zz (4 - vs.length) = .int .i64 0 :: zz (4 - (vs ++ [x]).length) := by
    rw [show 4 - vs.length = (4 - (vs ++ [x]).length) + 1 by simp; omega]; rfl
  have st := Stores.own (P := Try.prog) (T := 3) (m := 1) (b := bm) (o := 8 + vs.length) (v := .int .i64 x) (cs := (hd ++ iv vs) ++ .int .i64 0 :: (zz (4 - (vs ++ [x]).length) ++ [Value.slice none 0 0])) (vs := [.int .i64 x]) (E := 28) inferInstance rfl rfl rfl (by simp [h8]; omega)
  rw [splice_mid _ _ _ _ (by simp [h8])] at st
  unfold T2
  rw [e2]
  simpa [iv] using st
def tail6 : List Value := [.bool false, .int .i64 0, .int .i64 0, .int .i64 0, .int .i64 0, .slice none 0 0]
def T1 (bm bs : Nat) (vs : List Int) : Asrt := both (.own bm (.cells (iv (vs.take 7) ++ zz (7 - vs.length) ++ tail6).toArray 28 (0, 0))) (.own bs (.cells [.int .i64 (vs.getD 7 0)].toArray 3 (0, 0)))

theorem T1_stores (bm bs : Nat) (vs : List Int) (x : Int) (hi : vs.length < 8) : Stores Try.prog 3 (if vs.length < 7 then ⟨bm, vs.length, none⟩ else ⟨bs, 0, none⟩) (.int .i64 x) (T1 bm bs vs) (T1 bm bs (vs ++ [x])) := by
  by_cases h7 : vs.length < 7
  · rw [if_pos h7]
    have e2 : zz (7 - vs.length) = .int .i64 0 :: zz (7 - (vs ++ [x]).length) := by
      rw [show 7 - vs.length = (7 - (vs ++ [x]).length) + 1 by simp; omega]; rfl
    have st := Stores.own (P := Try.prog) (T := 3) (m := 1) (b := bm) (o := vs.length) (v := .int .i64 x) (cs := iv vs ++ .int .i64 0 :: (zz (7 - (vs ++ [x]).length) ++ tail6)) (vs := [.int .i64 x]) (E := 28) inferInstance rfl rfl rfl (by simp)
    rw [splice_mid _ _ _ _ (by simp)] at st
    have st2 := Stores.left (y := .own bs (.cells [.int .i64 0].toArray 3 (0, 0))) st (Asrt.dep_own _ _)
    unfold T1
    have g1 : vs.getD 7 0 = 0 := by simp [List.getD_eq_getElem?_getD, List.getElem?_eq_none (show vs.length ≤ 7 by omega)]
    have g2 : (vs ++ [x]).getD 7 0 = 0 := by simp [List.getD_eq_getElem?_getD, List.getElem?_eq_none (show (vs ++ [x]).length ≤ 7 by simp; omega)]
    rw [g1, g2, List.take_of_length_le (by omega), List.take_of_length_le (by simp; omega), e2]
    simpa [iv] using st2
  · rw [if_neg h7]
    have h8 : vs.length = 7 := by omega
    have st := Stores.own (P := Try.prog) (T := 3) (m := 1) (b := bs) (o := 0) (v := .int .i64 x) (cs := [.int .i64 (vs.getD 7 0)]) (vs := [.int .i64 x]) (E := 3) inferInstance rfl rfl rfl (by simp)
    have st2 := Stores.right (x := .own bm (.cells (iv (vs.take 7) ++ zz (7 - vs.length) ++ tail6).toArray 28 (0, 0))) st (Asrt.dep_own _ _)
    unfold T1
    have g2 : (vs ++ [x]).getD 7 0 = x := by simp [List.getD_eq_getElem?_getD, ← h8]
    have g3 : (vs ++ [x]).take 7 = vs.take 7 := by rw [List.take_append_of_le_length (by omega)]
    have g4 : zz (7 - (vs ++ [x]).length) = zz (7 - vs.length) := by simp [h8]
    rw [g2, g3, g4]
    simpa [splice] using st2

set_option maxHeartbeats 2000000 in
theorem c23 {ck : Msg → Int} (l : List Int) (hck : ∀ (m : Msg) (a : Option Addr) (c : Nat) (w : World), Rd w a (bv m.body) → (a = none → c = 0) → Byt m.body → m.body.length < l.length → CallsTo Try.prog 43 [m.val a c] w fun v w' => v = .int .i64 (ck m) ∧ Grew w w')
    (a : Option Addr) (ca : Nat) (w : World) (hr : Rd w a (bv l)) (hz : a = none → ca = 0) (hm : l.length ≤ 140737488355328) (hb : Byt l) :
    CallsTo Try.prog 110 [.slice a l.length ca] w fun v w' => ∃ a2 c2, v = .tuple [(unpackW ck l).1.val a2 c2, .int .i64 (unpackW ck l).2].toArray ∧ NewSl w w' (.slice a2 (unpackW ck l).1.body.length c2) 5 1 (unpackW ck l).1.body.length (bv (unpackW ck l).1.body) := by
  refine go_in (n := 68) (St.rd1 hr) Try.func110 rfl rfl ?_
  have nils : ∀ w', Grew w w' → NewSl w w' (.slice none 0 0) 5 1 0 (bv []) := fun w' hg => ⟨hg, World.ownsRow_nil _ _ _ _⟩
  repeat'(first|refine kv' ?_|apply jJ|refine jE' ?_|refine jp' ?_|(apply jc;kernel_rfl)|refine kg' ?_|refine kG' ?_|refine kB' fun _=>?_|refine kA' fun _=>?_|refine kK' fun _=>?_|refine kU' ?_|(apply LR.call; (· exact rfl); (intro w1 h1; refine (c65 a ca l w1 (h1.rd_of (List.Mem.tail _ (List.Mem.tail _ (List.Mem.tail _ (List.Mem.head _))))) hz hm).mono ?_; rintro v w2 ⟨br, a1, c1, rfl, hn⟩; refine LR.back (h1.got hn (rrA_dep _ _ _ _ _ _)) ?_; clear hn h1))|((first|refine kR' ?_ ?_|refine kQ' ?_ ?_);all_goals(intro hc;try simp only[hcs]at hc;try(exfalso;first|contradiction|omega))))
  apply LR.call
  · exact rfl
  intro w1 h1
  rename_i b2 bm bs _ bp
  have h2 := (front (front h1 2 rfl rfl) 3 rfl rfl).join rfl rfl
  have h3 := ((front h2 2 rfl rfl).join rfl rfl).cast (L' := [both (rrA 159 [.bool true] br a1 c1 l) (T1 bm bs []), _, _, _]) rfl
  clear h1 h2
  refine (c66m (m := 8) (ads := [⟨bm, 0 + 0, none⟩, ⟨bm, 0 + 1, none⟩, ⟨bm, 0 + 2, none⟩, ⟨bm, 0 + 3, none⟩, ⟨bm, 0 + 4, none⟩, ⟨bm, 0 + 5, none⟩, ⟨bm, 0 + 6, none⟩, ⟨bs, 0, none⟩]) (T := T1 bm bs) h3 rfl ?_ (fun _ => rfl) (fun _ => both_dep (Asrt.dep_own _ _) (Asrt.dep_own _ _)) hb (by omega) (by omega)).mono ?_
  · intro vs x hi
    have e : ∀ k (hk : k < 8), ([⟨bm, 0 + 0, none⟩, ⟨bm, 0 + 1, none⟩, ⟨bm, 0 + 2, none⟩, ⟨bm, 0 + 3, none⟩, ⟨bm, 0 + 4, none⟩, ⟨bm, 0 + 5, none⟩, ⟨bm, 0 + 6, none⟩, ⟨bs, 0, none⟩] : List Addr)[k] = if k < 7 then ⟨bm, k, none⟩ else ⟨bs, 0, none⟩ := by
      intro k hk
      match k, hk with
      | 0, _ => rfl
      | 1, _ => rfl
      | 2, _ => rfl
      | 3, _ => rfl
      | 4, _ => rfl
      | 5, _ => rfl
      | 6, _ => rfl
      | 7, _ => rfl
    rw [e _ hi]
    exact T1_stores bm bs vs x hi
  rintro v w2 ⟨a2, c2, rfl, st⟩
  refine LR.back st ?_
  clear st h3
  have hl8 := decs_len 8 l
  have hbd8 := decs_bound 8 l
  repeat'(first|refine kv' ?_|apply jJ|refine jE' ?_|refine jp' ?_|(apply jc;kernel_rfl)|refine kg' ?_|refine kG' ?_|refine kB' fun _=>?_|refine kA' fun _=>?_|refine kK' fun _=>?_|refine kU' ?_|((first|refine kR' ?_ ?_|refine kQ' ?_ ?_);all_goals(intro hc;try simp only[hcs]at hc;try(exfalso;first|contradiction|omega))))
  · (apply ret2c; (· exact rfl); (· exact inferInstance); (· exact rfl); (· (repeat (first | exact List.Mem.head _ | apply List.Mem.tail))); (· exact rfl); intro w' hS)
    have e : unpackW ck l = (zeroMsg, (decs 8 l).2.1) := by unfold unpackW; rw [if_pos hc]
    rw [e]
    exact ⟨none, 0, rfl, nils w' hS.toKeep⟩
  rename (decs 8 l).2.1 = 0 => he8
  obtain ⟨v0, v1, v2, v3, v4, v5, v6, v7, hv⟩ : ∃ v0 v1 v2 v3 v4 v5 v6 v7, (decs 8 l).1 = [v0, v1, v2, v3, v4, v5, v6, v7] := by
    have := hl8.2 he8
    match hx : (decs 8 l).1, this with
    | [a, b, c, d, e, f, g, h], _ => exact ⟨a, b, c, d, e, f, g, h, rfl⟩
  rw [hv] at hbd8 ⊢
  refine LR.sub (D := St w NoF [.own bm (.cells [.int .i64 v0, .int .i64 v1, .int .i64 v2, .int .i64 v3, .int .i64 v4, .int .i64 v5, .int .i64 v6, .bool false, .int .i64 0, .int .i64 0, .int .i64 0, .int .i64 0, .slice none 0 0].toArray 28 (0, 0)), .own bs (.cells [.int .i64 v7].toArray 3 (0, 0)), _, _, _, _]) (fun w hw => ((front hw 1 rfl rfl).part (Asrt.dep_own _ _) (Asrt.dep_own _ _)).cast rfl) ?_
  have ck1 : ∀ {α : Type} {x y z : α}, (if (decs 8 l).2.1 ≠ 0 then x else y) = y := fun {α x y z} => if_neg (by simpa using he8)
  repeat'(first|refine kv' ?_|apply jJ|refine jE' ?_|refine jp' ?_|(apply jc;kernel_rfl)|refine kg' ?_|refine kG' ?_|refine kB' fun _=>?_|refine kA' fun _=>?_|refine kK' fun _=>?_|refine kU' ?_|((first|refine kR' ?_ ?_|refine kQ' ?_ ?_);all_goals(intro hc;try simp only[hcs]at hc;try(exfalso;first|contradiction|omega))))
  · (apply ret2c; (· exact rfl); (· exact inferInstance); (· exact rfl); (· (repeat (first | exact List.Mem.head _ | apply List.Mem.tail))); (· exact rfl); intro w' hS)
    have e : unpackW ck l = (zeroMsg, 4) := by unfold unpackW; rw [if_neg (by simpa using he8), hv, if_pos (show 1 < [v0, v1, v2, v3, v4, v5, v6, v7].getD 7 0 from hc)]
    rw [e]
    exact ⟨none, 0, rfl, nils w' hS.toKeep⟩
  apply LR.call
  · exact rfl
  intro w1 h1
  rename_i bq
  have h3 : St w NoF [rrA 159 [.bool true] br a2 c2 (decs 8 l).2.2, T2 bm [.int .i64 v0, .int .i64 v1, .int .i64 v2, .int .i64 v3, .int .i64 v4, .int .i64 v5, .int .i64 v6, .bool (decide (v7 = 1))] [], _, _, _, _, _] w1 := front (front h1 1 rfl rfl) 3 rfl rfl
  have h4 := h3.join rfl rfl
  clear h1 h3
  refine (c66m (m := 4) (ads := [⟨bm, 0 + 8 + 0, none⟩, ⟨bm, 0 + 8 + 1 + 0, none⟩, ⟨bm, 0 + 8 + 1 + 1, none⟩, ⟨bm, 0 + 8 + 3, none⟩]) (T := T2 bm [.int .i64 v0, .int .i64 v1, .int .i64 v2, .int .i64 v3, .int .i64 v4, .int .i64 v5, .int .i64 v6, .bool (decide (v7 = 1))]) h4 rfl ?_ (fun _ => rfl) (fun _ => Asrt.dep_own _ _) (decs_rest_byt 8 hb) (by have := decs_rest_len 8 l; omega) (by omega)).mono ?_
  · intro vs x hi
    have e : ∀ k (hk : k < 4), ([⟨bm, 0 + 8 + 0, none⟩, ⟨bm, 0 + 8 + 1 + 0, none⟩, ⟨bm, 0 + 8 + 1 + 1, none⟩, ⟨bm, 0 + 8 + 3, none⟩] : List Addr)[k] = ⟨bm, 8 + k, none⟩ := by
      intro k hk
      match k, hk with
      | 0, _ => rfl
      | 1, _ => rfl
      | 2, _ => rfl
      | 3, _ => rfl
    rw [e _ hi]
    exact T2_stores bm _ rfl vs x hi
  rintro v w2 ⟨a3, c3, rfl, st⟩
  refine LR.back st ?_
  clear st h4
  repeat'(first|refine kv' ?_|apply jJ|refine jE' ?_|refine jp' ?_|(apply jc;kernel_rfl)|refine kg' ?_|refine kG' ?_|refine kB' fun _=>?_|refine kA' fun _=>?_|refine kK' fun _=>?_|refine kU' ?_|((first|refine kR' ?_ ?_|refine kQ' ?_ ?_);all_goals(intro hc;try simp only[hcs]at hc;try(exfalso;first|contradiction|omega))))
  · rename (decs 4 (decs 8 l).2.2).2.1 = 0 => he4
    obtain ⟨x0, x1, x2, x3, hx⟩ := four ((decs_len 4 (decs 8 l).2.2).2 he4)
    have hrb : Byt (decs 4 (decs 8 l).2.2).2.2 := decs_rest_byt 4 (decs_rest_byt 8 hb)
    have hrl : (decs 4 (decs 8 l).2.2).2.2.length ≤ l.length := Nat.le_trans (decs_rest_len 4 _) (decs_rest_len 8 l)
    have eu : unpackW ck l = if (octs 160 (decs 4 (decs 8 l).2.2).2.2).2.1 ≠ 0 then (zeroMsg, (octs 160 (decs 4 (decs 8 l).2.2).2.2).2.1)
        else if 0 < (octs 160 (decs 4 (decs 8 l).2.2).2.2).2.2.length ∨ ck (msgOf [v0, v1, v2, v3, v4, v5, v6, v7] [x0, x1, x2, x3] (octs 160 (decs 4 (decs 8 l).2.2).2.2).1) ≠ 0 then (zeroMsg, 4)
        else (msgOf [v0, v1, v2, v3, v4, v5, v6, v7] [x0, x1, x2, x3] (octs 160 (decs 4 (decs 8 l).2.2).2.2).1, 0) := by
      rename v7 ≤ 1 => h7
      unfold unpackW
      rw [if_neg (by simpa using he8), hv, if_neg (show ¬ 1 < [v0, v1, v2, v3, v4, v5, v6, v7].getD 7 0 from Int.not_lt.2 h7), if_neg (by simpa using he4), hx]
    rw [eu, hx]
    clear eu hx hl8
    generalize (decs 4 (decs 8 l).2.2).2.2 = lr at *
    refine LR.sub (D := St w NoF [.own bm (.cells [.int .i64 v0, .int .i64 v1, .int .i64 v2, .int .i64 v3, .int .i64 v4, .int .i64 v5, .int .i64 v6, .bool (decide (v7 = 1)), .int .i64 x0, .int .i64 x1, .int .i64 x2, .int .i64 x3, .slice none 0 0].toArray 28 (0, 0)), rrA 159 [.bool true] br a3 c3 lr, _, _, _, _, _]) (fun w hw => (front hw 1 rfl rfl).cast rfl) ?_
    repeat'(first|refine kv' ?_|apply jJ|refine jE' ?_|refine jp' ?_|(apply jc;kernel_rfl)|refine kg' ?_|refine kG' ?_|refine kB' fun _=>?_|refine kA' fun _=>?_|refine kK' fun _=>?_|refine kU' ?_|(apply LR.call; (· exact rfl); (intro w1 h1; refine (c67 br a3 c3 lr 160 w1 (h1.holds _ (List.Mem.tail _ (List.Mem.head _))) hrb (by omega)).mono ?_; rintro v w2 ⟨a4, c4, a5, c5, rfl, st⟩; refine LR.back (h1.did1 (Sel.tail _ (Sel.head _ _ _)) rfl rfl rfl st) ?_; clear st h1))|(apply LR.qcall; (· exact rfl); (· intro w1 h1; exact CallsTo.q (c68 br _ _ _ w1 (h1.holds _ (List.Mem.tail _ (List.Mem.tail _ (List.Mem.head _))))) h1))|(apply LR.qcall; (· exact rfl); (· intro w1 h1; have ho : (octs 160 lr).2.1 = 0 := by assumption; have hof := octs_facts ho; have hq := CallsTo.q (hck (msgOf [v0, v1, v2, v3, v4, v5, v6, v7] [x0, x1, x2, x3] (octs 160 lr).1) a5 c5 w1 (h1.rd_of_own (List.Mem.head _)) (fun e => (ownsRow_some (h1.holds _ (List.Mem.head _)) e).2) (fun b hb' => hrb b (hof.2 b hb')) (Nat.lt_of_lt_of_le hof.1 hrl)) h1; show CallsTo Try.prog 43 [(msgOf [v0, v1, v2, v3, v4, v5, v6, v7] [x0, x1, x2, x3] (octs 160 lr).1).val a5 c5] w1 _; exact hq))|((first|refine kR' ?_ ?_|refine kQ' ?_ ?_);all_goals(intro hc;try simp only[hcs]at hc;try(exfalso;first|contradiction|omega))))
    · (apply ret2c; (· exact rfl); (· exact inferInstance); (· exact rfl); (· (repeat (first | exact List.Mem.head _ | apply List.Mem.tail))); (· exact rfl); intro w' hS)
      rw [if_pos (by assumption)]
      exact ⟨none, 0, rfl, nils w' hS.toKeep⟩
    · (apply ret2c; (· exact rfl); (· exact inferInstance); (· exact rfl); (· (repeat (first | exact List.Mem.head _ | apply List.Mem.tail))); (· exact rfl); intro w' hS)
      rw [if_neg (by simpa using (by assumption : (octs 160 lr).2.1 = 0)), if_pos (.inl (by omega))]
      exact ⟨none, 0, rfl, nils w' hS.toKeep⟩
    have ho : (octs 160 lr).2.1 = 0 := by assumption
    have hof := octs_facts ho
    apply LR.qcall
    · exact rfl
    · intro w1 h1
      have hq := CallsTo.q (hck (msgOf [v0, v1, v2, v3, v4, v5, v6, v7] [x0, x1, x2, x3] (octs 160 lr).1) a5 c5 w1 (h1.rd_of_own (List.Mem.head _)) (fun e => (ownsRow_some (h1.holds _ (List.Mem.head _)) e).2) (fun b hb' => hrb b (hof.2 b hb')) (Nat.lt_of_lt_of_le hof.1 hrl)) h1
      show CallsTo Try.prog 43 [(msgOf [v0, v1, v2, v3, v4, v5, v6, v7] [x0, x1, x2, x3] (octs 160 lr).1).val a5 c5] w1 _
      exact hq
    repeat'(first|refine kv' ?_|apply jJ|refine jE' ?_|refine jp' ?_|(apply jc;kernel_rfl)|refine kg' ?_|refine kG' ?_|refine kB' fun _=>?_|refine kA' fun _=>?_|refine kK' fun _=>?_|refine kU' ?_|((first|refine kR' ?_ ?_|refine kQ' ?_ ?_);all_goals(intro hc;try simp only[hcs]at hc;try(exfalso;first|contradiction|omega))))
    · (apply ret2c; (· exact rfl); (· exact inferInstance); (· exact rfl); (· (repeat (first | exact List.Mem.head _ | apply List.Mem.tail))); (· exact rfl); intro w' hS)
      rw [if_neg (by simpa using ho), if_pos (.inr (by assumption))]
      exact ⟨none, 0, rfl, nils w' hS.toKeep⟩
    · rename ck _ = 0 => hck0
      (apply ret2c; (· exact rfl); (· exact inferInstance); (· exact rfl); (· (repeat (first | exact List.Mem.head _ | apply List.Mem.tail))); (· exact rfl); intro w' hS)
      rw [if_neg (by simpa using ho), if_neg (by simp only [not_or, Nat.not_lt]; exact ⟨by omega, by simpa using hck0⟩)]
      exact ⟨a5, c5, rfl, hS.toNew (List.Mem.head _)⟩
  · (apply ret2c; (· exact rfl); (· exact inferInstance); (· exact rfl); (· (repeat (first | exact List.Mem.head _ | apply List.Mem.tail))); (· exact rfl); intro w' hS)
    rename v7 ≤ 1 => h7
    have e : unpackW ck l = (zeroMsg, (decs 4 (decs 8 l).2.2).2.1) := by unfold unpackW; rw [if_neg (by simpa using he8), hv, if_neg (show ¬ 1 < [v0, v1, v2, v3, v4, v5, v6, v7].getD 7 0 from Int.not_lt.2 h7), if_pos (by assumption)]
    rw [e]
    exact ⟨none, 0, rfl, nils w' hS.toKeep⟩
end Go.Proofs.Ytphcnaafhcfakaa

namespace Go.Proofs.Ytphcnaafhcfakaa
open Go.Hb
attribute [local irreducible] LR CW At Ev thn blk finK noG again CallsTo DW QL dnext
set_option maxRecDepth 100000

theorem unp_all : ∀ K, UnpC 110 K
  | 0 => fun a ca l w hr hz hm hb hK => c23 (ck := fun _ => 2) l (fun m a c w _ _ _ h => by omega) a ca w hr hz hm hb
  | K + 1 => fun a ca l w hr hz hm hb hK => c23 (ck := checkM (unpackF K)) l (fun m a c w h1 h2 h3 h4 => c17 (unp_all K) m a c w h1 h2 (by omega) h3 (fun _ => by omega)) a ca w hr hz hm hb

theorem unpackW_congr {ck ck' : Msg → Int} {l : List Int} (h : ∀ m : Msg, m.body.length < l.length → ck m = ck' m) : unpackW ck l = unpackW ck' l := by
  unfold unpackW
  by_cases h1 : (decs 8 l).2.1 = 0
  · by_cases h2 : (decs 4 (decs 8 l).2.2).2.1 = 0
    · by_cases h3 : (octs 160 (decs 4 (decs 8 l).2.2).2.2).2.1 = 0
      · have hl := (octs_facts h3).1
        have hrl : (decs 4 (decs 8 l).2.2).2.2.length ≤ l.length := Nat.le_trans (decs_rest_len 4 _) (decs_rest_len 8 l)
        rw [h (msgOf (decs 8 l).1 (decs 4 (decs 8 l).2.2).1 (octs 160 (decs 4 (decs 8 l).2.2).2.2).1) (Nat.lt_of_lt_of_le hl hrl)]
      · simp only [h3, ne_eq, not_false_eq_true, if_true]
    · simp only [h2, ne_eq, not_false_eq_true, if_true]
  · simp only [h1, ne_eq, not_false_eq_true, if_true]
theorem checkM_congr {u u' : List Int → Msg × Int} {m : Msg} (h : u m.body = u' m.body) : checkM u m = checkM u' m := by
  unfold checkM mayB kindB oldB
  rw [h]
theorem unpackF_same : ∀ (K K' : Nat) (l : List Int), l.length ≤ K → l.length ≤ K' → unpackF K l = unpackF K' l
  | 0, K', l, h, _ => by
    cases K' with
    | zero => rfl
    | succ k => exact unpackW_congr fun m hm => by omega
  | K + 1, 0, l, _, h => unpackW_congr fun m hm => by omega
  | K + 1, K' + 1, l, h, h' => unpackW_congr fun m hm => checkM_congr (unpackF_same K K' m.body (by omega) (by omega))
def unpack (l : List Int) : Msg × Int := unpackF l.length l
def check (m : Msg) : Int := checkM unpack m
theorem check_of {K : Nat} {m : Msg} (h : m.body.length ≤ K) : checkM (unpackF K) m = check m := checkM_congr (unpackF_same K _ m.body h (Nat.le_refl _))
theorem d17 (m : Msg) (a : Option Addr) (c : Nat) (w : World) (hr : Rd w a (bv m.body)) (hz : a = none → c = 0) (hm : m.body.length ≤ 140737488355328) (hb : Byt m.body) :
    CallsTo Try.prog 43 [m.val a c] w fun v w' => v = .int .i64 (check m) ∧ Grew w w' := by
  have := c17 (unp_all m.body.length) m a c w hr hz hm hb (fun _ => Nat.le_refl _)
  rwa [check_of (Nat.le_refl _)] at this
end Go.Proofs.Ytphcnaafhcfakaa

namespace Go.Proofs.Ytphcnaafhcfakaa
open Go.Hb
attribute [local irreducible] LR CW At Ev thn blk finK noG again CallsTo DW QL dnext
set_option maxRecDepth 100000

set_option maxHeartbeats 2000000 in
theorem c64 {K : Nat} (hU : UnpC 98 K) (m : Msg) (a : Option Addr) (c : Nat) (w : World) (hr : Rd w a (bv m.body)) (hz : a = none → c = 0) (hm : m.body.length ≤ 140737488355328) (hb : Byt m.body) (hK : m.body.length ≤ K) :
    CallsTo Try.prog 76 [m.val a c] w fun v w' => v = .bool (kindB (unpackF K) m) ∧ Grew w w' := by
  refine go_in (n := 139) (St.rd1 hr) Try.func76 rfl rfl ?_
  repeat'(first|refine kv' ?_|apply jJ|refine jE' ?_|refine jp' ?_|(apply jc;kernel_rfl)|refine kg' ?_|refine kG' ?_|refine kB' fun _=>?_|refine kA' fun _=>?_|refine kK' fun _=>?_|refine kU' ?_|(apply LR.call; (· exact rfl); (intro w1 h1; first | (refine (c26 a c m.body w1 (h1.rd_of (List.Mem.tail _ (List.Mem.head _))) hz hm hb).mono ?_; rintro v w2 ⟨a2, c2, rfl, hn⟩; refine LR.back (h1.newSl hn) ?_; clear hn h1) | (refine (hU a c m.body w1 (h1.rd_of (List.Mem.tail _ (List.Mem.head _))) hz hm hb hK).mono ?_; rintro v w2 ⟨a2, c2, rfl, hn⟩; refine LR.back (h1.newSl hn) ?_; clear hn h1)))|(apply LR.qcall; (· exact rfl); (· intro w1 h1; first | (have hq := CallsTo.q (c98 m a c w1) h1; show CallsTo Try.prog 96 [m.val a c] w1 _; exact hq) | exact CallsTo.q (c61 m.id w1) h1))|((first|refine kR' ?_ ?_|refine kQ' ?_ ?_);all_goals(intro hc;try simp only[hcs]at hc;try(exfalso;first|contradiction|omega))))
  all_goals (
    (apply ret1; (· exact rfl); intro w' hS)
    refine ⟨congrArg Value.bool ?_, hS.toKeep⟩
    clear hS)
  all_goals clear hr hU hz hb hm hK
  all_goals (first
    | (simp_all [kindB, textB, emptyB, wantB, chartB, oldB, withinB_iff]; done)
    | (rw [Bool.eq_iff_iff]; simp_all [kindB, textB, emptyB, wantB, chartB, oldB, withinB_iff]; done)
    | (rw [Bool.eq_iff_iff]; simp_all [kindB, textB, emptyB, wantB, chartB, oldB, withinB_iff]; omega)
    | (simp_all [kindB, textB, emptyB, wantB, chartB, oldB, withinB_iff]; omega)
    | (simp_all [kindB, textB, emptyB, wantB, chartB, oldB, withinB_iff]; intros; omega)
    | skip)

theorem kindB_range (u : List Int → Msg × Int) (m : Msg) (h : kindB u m = true) : 1 ≤ m.kind ∧ m.kind ≤ 5 := by
  unfold kindB at h
  repeat' split at h
  all_goals first | omega | cases h
set_option maxHeartbeats 2000000 in
theorem c18 {K : Nat} (hU : UnpC 98 K) (m : Msg) (a : Option Addr) (c : Nat) (w : World) (hr : Rd w a (bv m.body)) (hz : a = none → c = 0) (hm : m.body.length ≤ 140737488355328) (hb : Byt m.body) (hK : m.body.length ≤ 160 → m.body.length ≤ K) :
    CallsTo Try.prog 47 [m.val a c] w fun v w' => v = .int .i64 (checkM (unpackF K) m) ∧ Grew w w' := by
  refine go_in (n := 44) (St.rd1 hr) Try.func47 rfl rfl ?_
  repeat'(first|refine kv' ?_|apply jJ|refine jE' ?_|refine jp' ?_|(apply jc;kernel_rfl)|refine kg' ?_|refine kG' ?_|refine kB' fun _=>?_|refine kA' fun _=>?_|refine kK' fun _=>?_|refine kU' ?_|(apply LR.qcall; (· exact rfl); (· intro w1 h1; first | exact CallsTo.q (c61 m.origin w1) h1 | exact CallsTo.q (c62 m.life w1) h1 | exact CallsTo.q (c62 m.id w1) h1 | exact CallsTo.q (c63 _ _ _ _ w1) h1))|((first|refine kR' ?_ ?_|refine kQ' ?_ ?_);all_goals(intro hc;try simp only[hcs]at hc;try(exfalso;first|contradiction|omega))))
  rotate_right
  · have hl : m.body.length ≤ 160 := by omega
    apply LR.qcall
    · exact rfl
    · intro w1 h1
      have hq := CallsTo.q (c64 hU m a c w1 (h1.rd_of (List.Mem.tail _ (List.Mem.head _))) hz hm hb (hK hl)) h1
      show CallsTo Try.prog 76 [m.val a c] w1 _
      exact hq
    repeat'(first|refine kv' ?_|apply jJ|refine jE' ?_|refine jp' ?_|(apply jc;kernel_rfl)|refine kg' ?_|refine kG' ?_|refine kB' fun _=>?_|refine kA' fun _=>?_|refine kK' fun _=>?_|refine kU' ?_|((first|refine kR' ?_ ?_|refine kQ' ?_ ?_);all_goals(intro hc;try simp only[hcs]at hc;try(exfalso;first|contradiction|omega))))
    all_goals (
      (apply ret1; (· exact rfl); intro w' hS)
      refine ⟨congrArg (Value.int .i64) ?_, hS.toKeep⟩
      clear hS
      have hkr := kindB_range (unpackF K) m
      unfold checkM
      first
      | (rw [if_pos (by omega)])
      | (rw [if_neg (by omega)]; unfold mayB; simp_all [withinB_iff, numB_iff]; done)
      | (rw [if_neg (by omega)]; unfold mayB; simp_all [withinB_iff, numB_iff]; omega)
      | (rw [if_neg (by omega)]; unfold mayB; simp_all [withinB_iff, numB_iff]; intros; omega))
  all_goals (
    (apply ret1; (· exact rfl); intro w' hS)
    refine ⟨congrArg (Value.int .i64) ?_, hS.toKeep⟩
    clear hS
    unfold checkM
    first
    | (rw [if_pos (by omega)])
    | (rw [if_neg (by omega)]; unfold mayB; simp_all [withinB_iff, numB_iff]; done)
    | (rw [if_neg (by omega)]; unfold mayB; simp_all [withinB_iff, numB_iff]; omega)
    | (rw [if_neg (by omega)]; unfold mayB; simp_all [withinB_iff, numB_iff]; intros; omega))
end Go.Proofs.Ytphcnaafhcfakaa

namespace Go.Proofs.Ytphcnaafhcfakaa
open Go.Hb
attribute [local irreducible] LR CW At Ev thn blk finK noG again CallsTo DW QL dnext
set_option maxRecDepth 100000

def b2i (b : Bool) : Int := if b then 1 else 0
def msgNums (m : Msg) : List Int := [m.kind, m.origin, m.life, m.id, m.part, m.parts, m.groups, b2i m.safe, m.stamp, m.rseq, m.rrep, m.kseq]
def bytesM (m : Msg) : List Int := encs (msgNums m) ++ enc m.body.length ++ m.body
theorem ring_ok {s r : Int} (h : ringB s r = true) : okN s ∧ okN r := by
  unfold ringB at h; rw [numB_iff] at h; unfold okN; simp at h; omega
theorem check_ok {m : Msg} (h : check m = 0) : m.body.length ≤ 160 ∧ mayB unpack m = true := by
  unfold check checkM at h
  split at h
  · cases h
  · split at h
    · exact ⟨by omega, by assumption⟩
    · cases h
theorem key_ok {t s r q : Int} (h : keyE t s r q = 0) : okN t ∧ okN s ∧ okN r ∧ okN q := by
  unfold keyE at h
  split at h
  · rename_i hk
    unfold keyB at hk; rw [numB_iff, numB_iff] at hk
    simp only [Bool.and_eq_true, decide_eq_true_eq] at hk
    have := ring_ok hk.2
    exact ⟨hk.1.1, this.1, this.2, hk.1.2⟩
  · cases h
theorem kind_parts {u : List Int → Msg × Int} {m : Msg} (h : kindB u m = true) : okN m.part ∧ okN m.parts := by
  have pl : plainB m = true → okN m.part ∧ okN m.parts := fun h => by unfold plainB at h; unfold okN; simp at h; omega
  unfold kindB at h
  repeat' split at h
  · unfold textB at h; unfold okN; simp at h; omega
  · unfold emptyB at h; simp only [Bool.and_eq_true] at h; exact pl h.1
  · unfold wantB emptyB at h; simp only [Bool.and_eq_true] at h; exact pl h.1.1
  · unfold chartB at h; simp only [Bool.and_eq_true] at h; exact pl h.1.1
  · unfold oldB at h; simp only [Bool.and_eq_true] at h; exact pl h.1
  · cases h
theorem msgNums_ok {m : Msg} (h : check m = 0) : ∀ x ∈ msgNums m, okN x := by
  obtain ⟨h1, h2⟩ := check_ok h
  unfold mayB at h2
  simp only [withinB_iff, Bool.and_eq_true, decide_eq_true_eq] at h2
  obtain ⟨⟨⟨⟨⟨⟨h3, h4⟩, h5⟩, h6⟩, h7⟩, h8⟩, h9⟩ := h2
  have hk := key_ok h8
  have hp := kind_parts h9
  have hs : okN (b2i m.safe) := by unfold okN b2i; split <;> omega
  intro x hx
  simp only [msgNums, List.mem_cons, List.not_mem_nil, or_false] at hx
  rcases hx with rfl | rfl | rfl | rfl | rfl | rfl | rfl | rfl | rfl | rfl | rfl | rfl
  · unfold okN; omega
  · unfold okN; omega
  · exact h5
  · exact h6
  · exact hp.1
  · exact hp.2
  · unfold okN; omega
  · exact hs
  · exact hk.1
  · exact hk.2.1
  · exact hk.2.2.1
  · exact hk.2.2.2
end Go.Proofs.Ytphcnaafhcfakaa

namespace Go.Proofs.Ytphcnaafhcfakaa
open Go.Hb
attribute [local irreducible] LR CW At Ev thn blk finK noG again CallsTo
set_option maxRecDepth 100000

theorem take_succ_eq {la lb : List Int} {i : Nat} (h1 : i < la.length) (h2 : i < lb.length) (h : la.take i = lb.take i) (he : la[i] = lb[i]) : la.take (i + 1) = lb.take (i + 1) := by
  rw [List.take_succ_eq_append_getElem h1, List.take_succ_eq_append_getElem h2, h, he]

theorem c19 (a b : Option Addr) (ca cb : Nat) (la lb : List Int) (w : World) (ha : Rd w a (bv la)) (hb : Rd w b (bv lb)) (hm : la.length ≤ 281474976710656) :
    CallsTo Try.prog 18 [.slice a la.length ca, .slice b lb.length cb] w fun v w' => v = .bool (decide (la = lb)) ∧ Grew w w' := by
  refine go_in (n := 26) (St.rd2 ha hb) Try.func18 rfl rfl ?_
  repeat'(first|refine kv' ?_|apply jJ|refine jE' ?_|refine jp' ?_|(apply jc;kernel_rfl)|refine kg' ?_|refine kG' ?_|refine kB' fun _=>?_|refine kA' fun _=>?_|refine kK' fun _=>?_|refine kU' ?_|((first|refine kR' ?_ ?_|refine kQ' ?_ ?_);all_goals(intro hc;try simp only[hcs]at hc;try(exfalso;first|contradiction|omega))))
  · (apply ret1; (· exact rfl); intro w' hS)
    refine ⟨congrArg Value.bool ?_, hS.toKeep⟩
    have : la ≠ lb := fun e => by subst e; simp at hc
    simp [this]
  · apply CW.loop [4, 5, 11, 12, 13, 14, 15, 16, 17, 18, 19, 20, 21, 22, 23, 24, 25] (fun i : Nat => i ≤ la.length ∧ la.take i = lb.take i) (fun i : Nat => [(5, Value.int .i64 i)]) (fun i => St w NoF [rdA a (bv la), rdA b (bv lb)]) (fun i => la.length - i)
    · exact fun w' hw' => ⟨0, ⟨by omega, by simp⟩, ⟨rfl, trivial⟩, hw'⟩
    intro i g ⟨hi, heq⟩
    by_cases hlt : i < la.length
    · obtain ⟨ba, oa, rfl⟩ := ha.form (fun e => by have := congrArg List.length e; simp at this; subst this; simp at hlt)
      obtain ⟨bb, ob, rfl⟩ := hb.form (fun e => by have := congrArg List.length e; simp at this; subst this; simp at hc; simp [hc] at hlt)
      have hlb : i < lb.length := by omega
      repeat'(first|refine kv' ?_|apply jJ|refine jE' ?_|refine jp' ?_|(apply jc;kernel_rfl)|refine kg' ?_|refine kG' ?_|refine kB' fun _=>?_|refine kA' fun _=>?_|refine kK' fun _=>?_|refine kU' ?_|(apply idxX;(iterate 2 exact rfl);(iterate 2(first|omega|(dsimp only;omega)));exact rfl)|(apply LR.ev; (· apply Ev.load_rd; (· exact rfl); (· repeat (first | exact mH _ _ | apply mT)); (· exact bv_at (i := i) (by simp) (by omega))); (· exact rfl))|(apply addX;(iterate 2 exact rfl);(iterate 2(first|omega|(dsimp only;omega)));exact rfl)|((first|refine kR' ?_ ?_|refine kQ' ?_ ?_);all_goals(intro hc;try simp only[hcs]at hc;try(exfalso;first|contradiction|omega))))
      · (apply ret1; (· exact rfl); intro w' hS)
        refine ⟨congrArg Value.bool ?_, hS.toKeep⟩
        have : la ≠ lb := fun e => by subst e; simp_all
        simp [this]
      · apply At.again (i + 1) ⟨by omega, take_succ_eq hlt hlb heq (by simpa using ‹_›)⟩
        · (repeat (first | exact Out.refl _ _ | exact Out.mix | (apply Out.upd; (· exact rfl)) | (apply Out.updL; (· exact rfl)) | (apply Out.mixs; (· exact rfl))))
        · exact ⟨rfl, trivial⟩
        · exact fun w' hw' => hw'
        · omega
    · repeat'(first|refine kv' ?_|apply jJ|refine jE' ?_|refine jp' ?_|(apply jc;kernel_rfl)|refine kg' ?_|refine kG' ?_|refine kB' fun _=>?_|refine kA' fun _=>?_|refine kK' fun _=>?_|refine kU' ?_|((first|refine kR' ?_ ?_|refine kQ' ?_ ?_);all_goals(intro hc;try simp only[hcs]at hc;try(exfalso;first|contradiction|omega))))
      (apply ret1; (· exact rfl); intro w' hS)
      refine ⟨congrArg Value.bool ?_, hS.toKeep⟩
      have e1 : la.take i = la := List.take_of_length_le (by omega)
      have e2 : lb.take i = lb := List.take_of_length_le (by omega)
      rw [e1, e2] at heq
      simp [heq]
end Go.Proofs.Ytphcnaafhcfakaa

namespace Go.Proofs.Ytphcnaafhcfakaa
open Go.Hb
attribute [local irreducible] LR CW At Ev thn blk finK noG again CallsTo DW QL dnext
set_option maxRecDepth 100000

def sameB (x y : Msg) : Bool := decide (x.kind = y.kind ∧ x.origin = y.origin ∧ x.life = y.life ∧ x.id = y.id ∧ x.part = y.part ∧ x.parts = y.parts ∧ x.groups = y.groups ∧ x.safe = y.safe ∧ [x.stamp, x.rseq, x.rrep, x.kseq] = [y.stamp, y.rseq, y.rrep, y.kseq] ∧ x.body = y.body)
theorem sameB_iff (x y : Msg) : sameB x y = true ↔ x = y := by
  obtain ⟨x1, x2, x3, x4, x5, x6, x7, x8, x9, x10, x11, x12, x13⟩ := x
  obtain ⟨y1, y2, y3, y4, y5, y6, y7, y8, y9, y10, y11, y12, y13⟩ := y
  simp [sameB, and_assoc]
theorem sameB_self (x : Msg) : sameB x x = true := (sameB_iff x x).2 rfl

set_option maxHeartbeats 2000000 in
theorem c20 (x y : Msg) (a b : Option Addr) (c d : Nat) (w : World) (hx : Rd w a (bv x.body)) (hy : Rd w b (bv y.body)) (hm : x.body.length ≤ 140737488355328) :
    CallsTo Try.prog 17 [x.val a c, y.val b d] w fun v w' => v = .bool (sameB x y) ∧ Grew w w' := by
  refine go_in (n := 73) (St.rd2 hx hy) Try.func17 rfl rfl ?_
  repeat'(first|refine kv' ?_|apply jJ|refine jE' ?_|refine jp' ?_|(apply jc;kernel_rfl)|refine kg' ?_|refine kG' ?_|refine kB' fun _=>?_|refine kA' fun _=>?_|refine kK' fun _=>?_|refine kU' ?_|(apply LR.qcall; (· exact rfl); (· intro w1 h1; have hq := CallsTo.q (c19 a b c d x.body y.body w1 (h1.rd_of (List.Mem.tail _ (List.Mem.tail _ (List.Mem.head _)))) (h1.rd_of (List.Mem.tail _ (List.Mem.tail _ (List.Mem.tail _ (List.Mem.head _))))) (by omega)) h1; show CallsTo Try.prog 18 [.slice a x.body.length c, .slice b y.body.length d] w1 _; exact hq))|((first|refine kR' ?_ ?_|refine kQ' ?_ ?_);all_goals(intro hc;try simp only[hcs]at hc;try(exfalso;first|contradiction|omega))))
  all_goals (
    (apply ret1; (· exact rfl); intro w' hS)
    refine ⟨congrArg Value.bool ?_, hS.toKeep⟩
    unfold sameB
    simp_all)

end Go.Proofs.Ytphcnaafhcfakaa

namespace Go.Proofs.Ytphcnaafhcfakaa
open Go.Hb
attribute [local irreducible] LR CW At Ev thn blk finK noG again CallsTo DW QL dnext
set_option maxRecDepth 100000

end Go.Proofs.Ytphcnaafhcfakaa

namespace Go.Proofs.Ytphcnaafhcfakaa
open Go.Hb Go.ChangeShapes Go.WideShapes
attribute [local irreducible] LR CW At Ev thn blk finK noG again CallsTo DW QL dnext
set_option maxRecDepth 100000

theorem own_knob : ownKnob Try.prog.godebug = none := by kernel_rfl
theorem kids : Kids Try.prog (· < Try.prog.types.size) := kids_rows (by kernel_rfl) (by kernel_rfl)
theorem full_slices : ∀ t e, t < Try.prog.types.size → Try.prog.underlying t = some (.slice e) → 0 < Try.prog.cellsOf e := slices_full_of _ (by kernel_rfl)

theorem charts_len (ps : List Plc) : (charts ps).1.length ≤ 200 := by
  unfold charts
  split
  · simp
  · split
    · simp
    · split
      · simp
      · have := plcsLen ps ps.length (Nat.le_refl _)
        simp only [List.take_length] at this
        unfold plcsBytes
        simp only [List.length_append] at this ⊢; omega

end Go.Proofs.Ytphcnaafhcfakaa

namespace Go.Proofs.Ytphcnaafhcfakaa
open Go.Hb
attribute [local irreducible] LR CW At Ev thn blk finK noG again CallsTo DW QL dnext
set_option maxRecDepth 100000

theorem decs_split : ∀ (a b : Nat) (l : List Int), decs (a + b) l = if (decs a l).2.1 ≠ 0 then decs a l else ((decs a l).1 ++ (decs b (decs a l).2.2).1, (decs b (decs a l).2.2).2)
  | 0, b, l => by simp [decs]
  | a + 1, b, l => by
    rw [show a + 1 + b = (a + b) + 1 by omega, decs, decs]
    by_cases h : (dec l).2.2 ≠ 0
    · rw [if_pos h, if_pos h, if_pos (by simpa using h)]
    · rw [if_neg h, if_neg h, decs_split a b]
      dsimp only
      split
      · rfl
      · simp

def endU (ck : Msg → Int) (vs l : List Int) : Msg × Int :=
  if (octs 160 l).2.1 ≠ 0 then (zeroMsg, (octs 160 l).2.1)
  else if 0 < (octs 160 l).2.2.length ∨ ck (msgOf (vs.take 8) (vs.drop 8) (octs 160 l).1) ≠ 0 then (zeroMsg, 4)
  else (msgOf (vs.take 8) (vs.drop 8) (octs 160 l).1, 0)
def contU (ck : Msg → Int) : Nat → List Int → List Int → Msg × Int
  | 0, vs, l => endU ck vs l
  | k + 1, vs, l => if (dec l).2.2 ≠ 0 then (zeroMsg, (dec l).2.2) else if k = 4 ∧ 1 < ((dec l).1 : Int) then (zeroMsg, 4) else contU ck k (vs ++ [((dec l).1 : Int)]) (l.drop (dec l).2.1)
theorem contU_add (ck : Msg → Int) (b : Nat) : ∀ (j : Nat) (vs l : List Int), (5 ≤ b ∨ j + b ≤ 4) → contU ck (j + b) vs l = if (decs j l).2.1 ≠ 0 then (zeroMsg, (decs j l).2.1) else contU ck b (vs ++ (decs j l).1) (decs j l).2.2
  | 0, vs, l, _ => by simp [decs]
  | j + 1, vs, l, hb => by
    rw [show j + 1 + b = (j + b) + 1 by omega, contU, decs]
    by_cases h : (dec l).2.2 ≠ 0
    · rw [if_pos h, if_pos h, if_pos (by simpa using h)]
    · rw [if_neg h, if_neg h, if_neg (by omega), contU_add ck b j _ _ (by omega)]
      simp
theorem unpackW_cont (ck : Msg → Int) (l : List Int) : unpackW ck l = contU ck 12 [] l := by
  rw [show (12 : Nat) = 7 + 5 by rfl, contU_add ck 5 7 [] l (by omega)]
  have h8 : decs 8 l = _ := decs_split 7 1 l
  unfold unpackW
  rw [h8]
  by_cases h7 : (decs 7 l).2.1 ≠ 0
  · rw [if_pos h7, if_pos h7, if_pos h7]
  · rw [if_neg h7, if_neg h7]
    have hl7 := (decs_len 7 l).2 (by simpa using h7)
    generalize (decs 7 l).2.2 = r at *
    generalize (decs 7 l).1 = vs at *
    rw [contU]
    by_cases hd : (dec r).2.2 ≠ 0
    · have e1 : decs 1 r = ([], (dec r).2.2, r.drop (dec r).2.1) := by rw [decs, if_pos hd]
      rw [e1, if_pos hd]; dsimp only; rw [if_pos hd]
    · have e1 : decs 1 r = ([((dec r).1 : Int)], 0, r.drop (dec r).2.1) := by rw [decs, if_neg hd]; rfl
      have e7 : (vs ++ [((dec r).1 : Int)]).getD 7 0 = ((dec r).1 : Int) := by simp [List.getD_eq_getElem?_getD, ← hl7]
      have e8 : (vs ++ [((dec r).1 : Int)]).length = 8 := by simp [hl7]
      rw [e1, if_neg hd]
      dsimp only
      generalize (dec r).2.1 = n at *
      generalize ((dec r).1 : Int) = x at *
      simp only [ne_eq, not_true_eq_false, if_false, List.nil_append, true_and]
      rw [e7]
      by_cases h1 : 1 < x
      · rw [if_pos h1, if_pos h1]
      · rw [if_neg h1, if_neg h1]
        have h12 := contU_add ck 0 4 (vs ++ [x]) (r.drop n) (by omega)
        rw [Nat.add_zero] at h12
        rw [h12]
        by_cases h4 : (decs 4 (r.drop n)).2.1 = 0
        rotate_left
        · simp only [h4, not_false_eq_true, if_true, ne_eq]
        · simp only [h4, not_true_eq_false, if_false, ne_eq]
          unfold contU endU
          have e9 : (vs ++ [x] ++ (decs 4 (r.drop n)).1).take 8 = vs ++ [x] := by rw [List.take_append_of_le_length (Nat.le_of_eq e8.symm), List.take_of_length_le (Nat.le_of_eq e8)]
          have e10 : (vs ++ [x] ++ (decs 4 (r.drop n)).1).drop 8 = (decs 4 (r.drop n)).1 := by rw [List.drop_append, e8, List.drop_of_length_le (Nat.le_of_eq e8)]; simp
          rw [e9, e10]

set_option maxHeartbeats 4000000 in
theorem c24 {ck : Msg → Int} (l : List Int) (hck : ∀ (m : Msg) (a : Option Addr) (c : Nat) (w : World), Rd w a (bv m.body) → (a = none → c = 0) → Byt m.body → m.body.length < l.length → CallsTo Try.prog 47 [m.val a c] w fun v w' => v = .int .i64 (ck m) ∧ Grew w w')
    (a : Option Addr) (ca : Nat) (w : World) (hr : Rd w a (bv l)) (hz : a = none → ca = 0) (hm : l.length ≤ 140737488355328) (hb : Byt l) :
    CallsTo Try.prog 98 [.slice a l.length ca] w fun v w' => ∃ a2 c2, v = .tuple [(unpackW ck l).1.val a2 c2, .int .i64 (unpackW ck l).2].toArray ∧ NewSl w w' (.slice a2 (unpackW ck l).1.body.length c2) 5 1 (unpackW ck l).1.body.length (bv (unpackW ck l).1.body) := by
  refine go_in (n := 86) (St.rd1 hr) Try.func98 rfl rfl ?_
  rw [unpackW_cont]
  have nils : ∀ w', Grew w w' → NewSl w w' (.slice none 0 0) 5 1 0 (bv []) := fun w' hg => ⟨hg, World.ownsRow_nil _ _ _ _⟩
  repeat'(first|refine kv' ?_|apply jJ|refine jE' ?_|refine jp' ?_|(apply jc;kernel_rfl)|refine kg' ?_|refine kG' ?_|refine kB' fun _=>?_|refine kA' fun _=>?_|refine kK' fun _=>?_|refine kU' ?_|(apply LR.call; (· exact rfl); (intro w1 h1; refine (c69 a ca l w1 (h1.rd_of memZ) hz hm).mono ?_; rintro v w2 ⟨br, a1, c1, rfl, hn⟩; refine LR.back (h1.got hn (rrA_dep _ _ _ _ _ _)) ?_; clear hn h1))|((first|refine kR' ?_ ?_|refine kQ' ?_ ?_);all_goals(intro hc;try simp only[hcs]at hc;try(exfalso;first|contradiction|omega))))
  rename_i bz ba
  apply CW.loop [3, 6, 7, 8, 14, 15, 16, 17, 18, 19, 20, 21, 22, 23, 24, 25, 26, 27, 28, 29, 30, 31, 32, 33, 34, 35, 36] (fun s : Nat × Option Addr × Nat × List Int × List Int => s.1 ≤ 12 ∧ s.2.2.2.1.length = s.1 ∧ Byt s.2.2.2.2 ∧ s.2.2.2.2.length ≤ l.length ∧ contU ck 12 [] l = contU ck (12 - s.1) s.2.2.2.1 s.2.2.2.2) (fun s => [(6, Value.int .i64 (s.1 : Int))])
    (fun s => St w NoF [.own ba (.cells (iv s.2.2.2.1 ++ zz (12 - s.1)).toArray 145 (0, 0)), rrA 156 [] br s.2.1 s.2.2.1 s.2.2.2.2, .own bz (.cells (zeroMsg.cells none 0).toArray 28 (0, 0))]) (fun s => 12 - s.1)
  · exact fun w' hw' => ⟨(0, a1, c1, [], l), ⟨by simp, rfl, hb, by simp, rfl⟩, ⟨rfl, trivial⟩, hw'.sub (List.Sublist.cons_cons _ (List.Sublist.cons_cons _ (List.Sublist.cons_cons _ (List.nil_sublist _))))⟩
  rintro ⟨i, a3, c3, vs, l3⟩ g ⟨hi, hvs, hb3, hm3, heq⟩
  simp only at hi hvs hb3 hm3 heq ⊢
  rw [heq]
  by_cases hlt : i < 12
  · obtain ⟨q, hq⟩ : ∃ q, 12 - i = q + 1 := ⟨12 - i - 1, by omega⟩
    rw [hq] at heq ⊢
    repeat'(first|refine kv' ?_|apply jJ|refine jE' ?_|refine jp' ?_|(apply jc;kernel_rfl)|refine kg' ?_|refine kG' ?_|refine kB' fun _=>?_|refine kA' fun _=>?_|refine kK' fun _=>?_|refine kU' ?_|(apply LR.ev; (· apply Ev.indexArr; (· exact rfl); (· exact rfl); (· first | decide | omega | (dsimp only; omega)); (· first | decide | omega | (dsimp only; omega))); (· exact rfl))|(apply LR.call; (· exact rfl); (intro w1 h1; refine (c70 _ _ _ l3 w1 h1.g1 hb3 (by omega)).mono ?_; rintro v w2 ⟨a4, c4, rfl, st⟩; refine LR.back (h1.did (Sel.tail _ (Sel.head _ _ _)) rfl st (rrA_dep _ _ _ _ _ _)) ?_; clear st h1))|((first|refine kR' ?_ ?_|refine kQ' ?_ ?_);all_goals(intro hc;try simp only[hcs]at hc;try(exfalso;first|contradiction|omega))))
    · (apply ret2c; (· exact rfl); (· exact inferInstance); (· exact rfl); (· (repeat (first | exact List.Mem.head _ | apply List.Mem.tail))); (· exact rfl); intro w' hS)
      have e : contU ck (q + 1) vs l3 = (zeroMsg, (dec l3).2.2) := by rw [contU, if_pos hc]
      rw [e]
      exact ⟨none, 0, rfl, nils w' hS.toKeep⟩
    · (apply ret2c; (· exact rfl); (· exact inferInstance); (· exact rfl); (· (repeat (first | exact List.Mem.head _ | apply List.Mem.tail))); (· exact rfl); intro w' hS)
      rename (dec l3).2.2 = 0 => hd
      rename ((i : Int) = 7) => hi7
      have e : contU ck (q + 1) vs l3 = (zeroMsg, 4) := by rw [contU, if_neg (by simpa using hd), if_pos ⟨by omega, hc⟩]
      rw [e]
      exact ⟨none, 0, rfl, nils w' hS.toKeep⟩
    all_goals (
      rename (dec l3).2.2 = 0 => hd
      have e : contU ck (q + 1) vs l3 = contU ck q (vs ++ [((dec l3).1 : Int)]) (l3.drop (dec l3).2.1) := by rw [contU, if_neg (by simpa using hd), if_neg (by omega)]
      refine LR.store_obj (v := .int .i64 ((dec l3).1 : Int)) (z' := .own ba (.cells (iv (vs ++ [((dec l3).1 : Int)]) ++ zz q).toArray 145 (0, 0))) rfl rfl (sH _ _ _) rfl ?_ (Asrt.dep_own _ _) ?_
      · have st := Stores.own (P := Try.prog) (T := 3) (m := 1) (b := ba) (o := 0 + (i : Int).toNat * 1) (v := .int .i64 ((dec l3).1 : Int)) (cs := iv vs ++ zz (q + 1)) (vs := [.int .i64 ((dec l3).1 : Int)]) (E := 145) inferInstance rfl rfl rfl (by
          simp [hvs, zz])
        have e2 : zz (q + 1) = .int .i64 0 :: zz q := rfl
        rw [e2, splice_mid _ _ _ _ (by simp [hvs])] at st
        rw [e2]
        simpa [iv] using st
      repeat'(first|refine kv' ?_|apply jJ|refine jE' ?_|refine jp' ?_|(apply jc;kernel_rfl)|refine kg' ?_|refine kG' ?_|refine kB' fun _=>?_|refine kA' fun _=>?_|refine kK' fun _=>?_|refine kU' ?_|(apply addX;(iterate 2 exact rfl);(iterate 2(first|omega|(dsimp only;omega)));exact rfl)|((first|refine kR' ?_ ?_|refine kQ' ?_ ?_);all_goals(intro hc;try simp only[hcs]at hc;try(exfalso;first|contradiction|omega))))
      apply At.again (i + 1, a4, c4, vs ++ [((dec l3).1 : Int)], l3.drop (dec l3).2.1)
      · refine ⟨by show i + 1 ≤ _; omega, by simp [hvs], hb3.drop _, by simp; omega, ?_⟩
        show contU ck (q + 1) vs l3 = _
        rw [e, show 12 - (i + 1) = q by omega]
      · (repeat (first | exact Out.refl _ _ | exact Out.mix | (apply Out.upd; (· exact rfl)) | (apply Out.updL; (· exact rfl)) | (apply Out.mixs; (· exact rfl))))
      · exact ⟨rfl, trivial⟩
      · intro w' hw'
        simp only [show 12 - (i + 1) = q by omega]
        exact hw'
      · show 12 - (i + 1) < 12 - i; omega)
  · have hi12 : i = 12 := by omega
    subst hi12
    obtain ⟨v0, v1, v2, v3, v4, v5, v6, v7, x0, x1, x2, x3, rfl⟩ : ∃ v0 v1 v2 v3 v4 v5 v6 v7 x0 x1 x2 x3, vs = [v0, v1, v2, v3, v4, v5, v6, v7, x0, x1, x2, x3] := by
      match vs, hvs with
      | [a, b, c, d, e, f, g, h, i, j, k, l], _ => exact ⟨a, b, c, d, e, f, g, h, i, j, k, l, rfl⟩
    rw [show 12 - 12 = 0 from rfl, contU]
    have eu : endU ck [v0, v1, v2, v3, v4, v5, v6, v7, x0, x1, x2, x3] l3 = if (octs 160 l3).2.1 ≠ 0 then (zeroMsg, (octs 160 l3).2.1)
        else if 0 < (octs 160 l3).2.2.length ∨ ck (msgOf [v0, v1, v2, v3, v4, v5, v6, v7] [x0, x1, x2, x3] (octs 160 l3).1) ≠ 0 then (zeroMsg, 4)
        else (msgOf [v0, v1, v2, v3, v4, v5, v6, v7] [x0, x1, x2, x3] (octs 160 l3).1, 0) := rfl
    rw [eu]
    repeat'(first|refine kv' ?_|apply jJ|refine jE' ?_|refine jp' ?_|(apply jc;kernel_rfl)|refine kg' ?_|refine kG' ?_|refine kB' fun _=>?_|refine kA' fun _=>?_|refine kK' fun _=>?_|refine kU' ?_|(apply LR.call; (· exact rfl); (intro w1 h1; refine (c71 br a3 c3 l3 160 w1 h1.g1 hb3 (by omega)).mono ?_; rintro v w2 ⟨a4, c4, a5, c5, rfl, st⟩; refine LR.back (h1.did1 (Sel.tail _ (Sel.head _ _ _)) rfl rfl rfl st) ?_; clear st h1))|(apply LR.ev; (· apply Ev.indexArr; (· exact rfl); (· exact rfl); (· first | decide | omega | (dsimp only; omega)); (· first | decide | omega | (dsimp only; omega))); (· exact rfl))|((first|refine kR' ?_ ?_|refine kQ' ?_ ?_);all_goals(intro hc;try simp only[hcs]at hc;try(exfalso;first|contradiction|omega))))
    · (apply ret2c; (· exact rfl); (· exact inferInstance); (· exact rfl); (· (repeat (first | exact List.Mem.head _ | apply List.Mem.tail))); (· exact rfl); intro w' hS)
      rw [if_pos (by assumption)]
      exact ⟨none, 0, rfl, nils w' hS.toKeep⟩
    rename (octs 160 l3).2.1 = 0 => ho
    have hof := octs_facts ho
    repeat'(first|refine kv' ?_|apply jJ|refine jE' ?_|refine jp' ?_|(apply jc;kernel_rfl)|refine kg' ?_|refine kG' ?_|refine kB' fun _=>?_|refine kA' fun _=>?_|refine kK' fun _=>?_|refine kU' ?_|(apply kq; (· exact rfl); (· intro w1 h1; exact CallsTo.q (c72 br _ _ _ w1 h1.g3) h1))|(apply kq; (· exact rfl); (· intro w1 h1; have hq := CallsTo.q (hck (msgOf [v0, v1, v2, v3, v4, v5, v6, v7] [x0, x1, x2, x3] (octs 160 l3).1) a5 c5 w1 (ownsRow_rd h1.g1) (fun e => (ownsRow_some h1.g1 e).2) (fun b hb' => hb3 b (hof.2 b hb')) (Nat.lt_of_lt_of_le hof.1 hm3)) h1; show CallsTo Try.prog 47 [(msgOf [v0, v1, v2, v3, v4, v5, v6, v7] [x0, x1, x2, x3] (octs 160 l3).1).val a5 c5] w1 _; exact hq))|((first|refine kR' ?_ ?_|refine kQ' ?_ ?_);all_goals(intro hc;try simp only[hcs]at hc;try(exfalso;first|contradiction|omega))))
    · (apply ret2c; (· exact rfl); (· exact inferInstance); (· exact rfl); (· (repeat (first | exact List.Mem.head _ | apply List.Mem.tail))); (· exact rfl); intro w' hS)
      rw [if_neg (by simpa using ho), if_pos (.inl (by omega))]
      exact ⟨none, 0, rfl, nils w' hS.toKeep⟩
    · (apply ret2c; (· exact rfl); (· exact inferInstance); (· exact rfl); (· (repeat (first | exact List.Mem.head _ | apply List.Mem.tail))); (· exact rfl); intro w' hS)
      rw [if_neg (by simpa using ho), if_pos (.inr (by assumption))]
      exact ⟨none, 0, rfl, nils w' hS.toKeep⟩
    · rename ck _ = 0 => hck0
      (apply ret2c; (· exact rfl); (· exact inferInstance); (· exact rfl); (· (repeat (first | exact List.Mem.head _ | apply List.Mem.tail))); (· exact rfl); intro w' hS)
      rw [if_neg (by simpa using ho), if_neg (by simp only [not_or, Nat.not_lt]; exact ⟨by omega, by simpa using hck0⟩)]
      exact ⟨a5, c5, rfl, hS.toNew (mT _ (mH _ _))⟩

theorem unp_all2 : ∀ K, UnpC 98 K
  | 0 => fun a ca l w hr hz hm hb hK => c24 (ck := fun _ => 2) l (fun m a c w _ _ _ h => by omega) a ca w hr hz hm hb
  | K + 1 => fun a ca l w hr hz hm hb hK => c24 (ck := checkM (unpackF K)) l (fun m a c w h1 h2 h3 h4 => c18 (unp_all2 K) m a c w h1 h2 (by omega) h3 (fun _ => by omega)) a ca w hr hz hm hb
theorem d18 (m : Msg) (a : Option Addr) (c : Nat) (w : World) (hr : Rd w a (bv m.body)) (hz : a = none → c = 0) (hm : m.body.length ≤ 140737488355328) (hb : Byt m.body) :
    CallsTo Try.prog 47 [m.val a c] w fun v w' => v = .int .i64 (check m) ∧ Grew w w' := by
  have := c18 (unp_all2 m.body.length) m a c w hr hz hm hb (fun _ => Nat.le_refl _)
  rwa [check_of (Nat.le_refl _)] at this
end Go.Proofs.Ytphcnaafhcfakaa

namespace Go.Proofs.Ytphcnaafhcfakaa
open Go.Hb
attribute [local irreducible] LR CW At Ev thn blk finK noG again CallsTo DW QL dnext
set_option maxRecDepth 100000

theorem c14 (m : Msg) (a : Option Addr) (c : Nat) (w : World) (hr : Rd w a (bv m.body)) (hz : a = none → c = 0) (hm : m.body.length ≤ 140737488355328) :
    CallsTo Try.prog 12 [m.val a c] w fun v w' => ∃ a2 c2, v = m.val a2 c2 ∧ NewSl w w' (.slice a2 m.body.length c2) 5 1 m.body.length (bv m.body) := by
  refine go_in (n := 10) (St.rd1 hr) Try.func12 rfl rfl ?_
  repeat'(first|refine kv' ?_|apply jJ|refine jE' ?_|refine jp' ?_|(apply jc;kernel_rfl)|refine kg' ?_|refine kG' ?_|refine kB' fun _=>?_|refine kA' fun _=>?_|refine kK' fun _=>?_|refine kU' ?_|(apply LR.call; (· exact rfl); (intro w1 h1; refine (c22 a c m.body w1 (h1.rd_of memZ) hz hm).mono ?_; rintro v w2 ⟨a2, c2, rfl, hn⟩; refine LR.back (h1.newSl hn) ?_; clear hn h1))|((first|refine kR' ?_ ?_|refine kQ' ?_ ?_);all_goals(intro hc;try simp only[hcs]at hc;try(exfalso;first|contradiction|omega))))
  (apply ret1c; (· exact rfl); (· exact inferInstance); (· exact rfl); (· (repeat (first | exact List.Mem.head _ | apply List.Mem.tail))); (· exact rfl); intro w' hS)
  exact ⟨a2, c2, rfl, hS.toNew (mH _ _)⟩
end Go.Proofs.Ytphcnaafhcfakaa

namespace Go.Proofs.Ytphcnaafhcfakaa
open Go.Hb Go.ChangeShapes Go.WideShapes
attribute [local irreducible] LR CW At Ev thn blk finK noG again CallsTo DW QL dnext
set_option maxRecDepth 100000

def MsgI (m : Msg) : Prop := i64 m.kind ∧ i64 m.origin ∧ i64 m.life ∧ i64 m.id ∧ i64 m.part ∧ i64 m.parts ∧ i64 m.groups ∧ i64 m.stamp ∧ i64 m.rseq ∧ i64 m.rrep ∧ i64 m.kseq
end Go.Proofs.Ytphcnaafhcfakaa

namespace Go.Proofs.Ytphcnaafhcfakaa
open Go.Hb
attribute [local irreducible] LR CW At Ev thn blk finK noG again CallsTo DW QL dnext
set_option maxRecDepth 100000

theorem rows_len : ∀ n l, (rows n l).1.length ≤ n
  | 0, l => by simp [rows]
  | n + 1, l => by
    rw [rows]
    split
    · simp
    · have := rows_len n (decs 4 l).2.2
      simp; omega
end Go.Proofs.Ytphcnaafhcfakaa

namespace Go.Proofs.Ytphcnaafhcfakaa
open Go.Hb

theorem toNat_mod (y : Nat) (h : y < 128) : ((y : Int)).toNat % 128 = y := by simp; omega
theorem split128 (y i : Nat) : (y % 128) * 128 ^ i + (y / 128) * 128 ^ (i + 1) = y * 128 ^ i := by
  rw [Nat.pow_succ, ← Nat.mul_assoc, Nat.mul_right_comm, ← Nat.add_mul]
  congr 1
  omega
theorem decF_encF : ∀ (k m i acc y : Nat) (r : List Int), y < 128 ^ (k + 1) → k ≤ m → acc + y * 128 ^ i ≤ 9007199254740991 → (0 < i → 0 < y) →
    decF (k + 1) i acc (encF m y ++ r) = (acc + y * 128 ^ i, i + (encF m y).length, 0)
  | k, m, i, acc, y, r, hy, hm, hs, hp => by
    by_cases hlt : y < 128
    · rw [encF_small m y hlt]
      simp only [List.cons_append, List.nil_append, decF, List.length_singleton]
      rw [if_pos (by omega), toNat_mod y hlt, if_neg (by simp only [not_or, not_and]; exact ⟨fun h => by have := hp h; omega, by omega⟩)]
    · cases k with
      | zero => simp at hy; omega
      | succ k =>
        cases m with
        | zero => omega
        | succ m =>
          have hd : y / 128 < 128 ^ (k + 1) := by rw [Nat.pow_succ] at hy; omega
          have hsp := split128 y i
          have ih := decF_encF k m (i + 1) (acc + y % 128 * 128 ^ i) (y / 128) r hd (by omega) (by omega) (fun _ => by omega)
          rw [encF, if_neg hlt, List.cons_append]
          rw [decF]
          have e1 : (((y % 128 + 128 : Nat) : Int)).toNat % 128 = y % 128 := by rw [Int.toNat_natCast]; omega
          rw [if_neg (by omega), e1, ih]
          simp only [List.length_cons, Prod.mk.injEq, and_true]
          omega
theorem dec_enc (x : Nat) (hx : x ≤ 9007199254740991) (r : List Int) : dec (enc x ++ r) = (x, (enc x).length, 0) := by
  have h1 : (128 : Nat) ^ 8 = 72057594037927936 := by decide
  have := decF_encF 7 8 0 0 x r (by omega) (by omega) (by simpa using hx) (fun h => by omega)
  simpa [dec, enc] using this
theorem decs_encs : ∀ (xs : List Int) (r : List Int), (∀ x ∈ xs, okN x) → decs xs.length (encs xs ++ r) = (xs, 0, r)
  | [], r, _ => by simp [decs, encs]
  | x :: xs, r, h => by
    have hx := h x List.mem_cons_self
    unfold okN at hx
    have he : encs (x :: xs) ++ r = enc x.toNat ++ (encs xs ++ r) := by simp [encs]
    have hd := dec_enc x.toNat (by omega) (encs xs ++ r)
    rw [he, List.length_cons, decs, hd, if_neg (by simp)]
    simp only [List.drop_left]
    rw [decs_encs xs r (fun y hy => h y (List.mem_cons_of_mem _ hy))]
    simp; omega
theorem plcOf_nums (p : Plc) : plcOf (plcNums p) = p := rfl
theorem rows_enc : ∀ (ps : List Plc) (r : List Int), (∀ p ∈ ps, ∀ x ∈ plcNums p, okN x) → rows ps.length ((ps.flatMap fun p => encs (plcNums p)) ++ r) = (ps, 0, r)
  | [], r, _ => by simp [rows]
  | p :: ps, r, h => by
    have hd := decs_encs (plcNums p) ((ps.flatMap fun p => encs (plcNums p)) ++ r) (h p List.mem_cons_self)
    have h4 : (plcNums p).length = 4 := rfl
    rw [h4] at hd
    rw [List.length_cons, rows, List.flatMap_cons, List.append_assoc, hd, if_neg (by simp)]
    simp only
    rw [rows_enc ps r (fun q hq => h q (List.mem_cons_of_mem _ hq)), plcOf_nums]
theorem charts_ok {ps : List Plc} (h : (charts ps).2 = 0) : ps.length ≤ 4 ∧ (∀ p ∈ ps, plcB p = true) ∧ charts ps = (plcsBytes ps, 0) := by
  unfold charts at h ⊢
  by_cases h4 : 4 < ps.length
  · rw [if_pos h4] at h; cases h
  rw [if_neg h4] at h ⊢
  by_cases hb : (ps.any fun p => !plcB p) = true
  · rw [if_pos hb] at h; cases h
  rw [if_neg hb] at h ⊢
  by_cases hi : incr (-1) ps = false
  · rw [if_pos hi] at h; cases h
  rw [if_neg hi]
  exact ⟨by omega, any_false (by simpa using hb), rfl⟩
theorem places_enc {ps : List Plc} (r : List Int) (h : (charts ps).2 = 0) : places (plcsBytes ps ++ r) = if 0 < r.length then ([], 4) else (ps, 0) := by
  obtain ⟨h4, hb, hc⟩ := charts_ok h
  have hd := dec_enc ps.length (by omega) ((ps.flatMap fun p => encs (plcNums p)) ++ r)
  have hr := rows_enc ps r (fun p hp => plcNums_ok (hb p hp))
  unfold places plcsBytes
  rw [List.append_assoc, hd]
  simp only [ne_eq, not_true_eq_false, if_false, List.drop_left]
  rw [if_neg (by omega), hr]
  simp only [not_true_eq_false, if_false, h, false_or]
end Go.Proofs.Ytphcnaafhcfakaa

namespace Go.Proofs.Ytphcnaafhcfakaa
open Go.Hb
attribute [local irreducible] LR CW At Ev thn blk finK noG again CallsTo DW QL dnext
set_option maxRecDepth 100000

theorem encF_byt : ∀ (m y : Nat), y < 128 ^ (m + 1) → Byt (encF m y)
  | 0, y, h => fun b hb => by simp [encF] at hb h; omega
  | m + 1, y, h => by
    rw [encF]
    split
    · intro b hb; simp at hb; omega
    · intro b hb
      rcases List.mem_cons.1 hb with rfl | hb
      · omega
      · exact encF_byt m (y / 128) (by rw [Nat.pow_succ] at h; omega) b hb
theorem enc_byt {x : Nat} (h : x ≤ 9007199254740991) : Byt (enc x) := encF_byt 8 x (by have : (128 : Nat) ^ 9 = 9223372036854775808 := by decide
                                                                                       omega)
theorem Byt.append {l r : List Int} (h : Byt l) (h' : Byt r) : Byt (l ++ r) := fun b hb => by
  rcases List.mem_append.1 hb with hb | hb
  · exact h b hb
  · exact h' b hb
theorem encs_byt {xs : List Int} (h : ∀ x ∈ xs, okN x) : Byt (encs xs) := by
  intro b hb
  obtain ⟨x, hx, hb⟩ := List.mem_flatMap.1 hb
  have := h x hx
  unfold okN at this
  exact enc_byt (by omega) b hb
theorem Byt.bytes {m : Msg} (hb : Byt m.body) (h : check m = 0) : Byt (bytesM m) :=
  ((encs_byt (msgNums_ok h)).append (enc_byt (by have := (check_ok h).1; omega))).append hb

end Go.Proofs.Ytphcnaafhcfakaa

namespace Go.Proofs.Ytphcnaafhcfakaa
open Go.Hb
attribute [local irreducible] LR CW At Ev thn blk finK noG again CallsTo DW QL dnext TW
set_option maxRecDepth 100000

def cmpI (x y : Int) : Int := if x < y then -1 else if y < x then 1 else 0
def orL : List Int → Int
  | [] => 0
  | x :: r => if x ≠ 0 then x else orL r
def ringsI (s r s' r' : Int) : Int := orL [cmpI s s', cmpI r r']
structure Ky where
  t : Int
  s : Int
  r : Int
  q : Int
def Ky.cells (k : Ky) : List Value := [.int .i64 k.t, .int .i64 k.s, .int .i64 k.r, .int .i64 k.q]
def Ky.val (k : Ky) : Value := .agg k.cells.toArray
def keysI (a b : Ky) : Int := orL [cmpI a.t b.t, ringsI a.s a.r b.s b.r, cmpI a.q b.q]
def okK (k : Ky) : Prop := keyE k.t k.s k.r k.q = 0
instance (k : Ky) : Decidable (okK k) := inferInstanceAs (Decidable (_ = _))
def aboveB (a b : Ky) : Bool := decide (okK a ∧ 0 < keysI a b)

theorem g93 (x : Int) (w : World) : CallsTo Try.prog 93 [.int .i64 x] w fun v w' => v = .bool false ∧ Grew w w' := by
  refine go_in (n := 6) (St.refl _ NoF) Try.func93 rfl rfl ?_
  repeat'(first|refine kv' ?_|apply jJ|refine jE' ?_|refine jp' ?_|(apply jc;kernel_rfl)|refine kg' ?_|refine kG' ?_|refine kB' fun _=>?_|refine kA' fun _=>?_|refine kK' fun _=>?_|refine kU' ?_|((first|refine kR' ?_ ?_|refine kQ' ?_ ?_);all_goals(intro hc;try simp only[hcs]at hc;try(exfalso;first|contradiction|omega))))
  (apply ret1; (· exact rfl); intro w' hS)
  exact ⟨congrArg Value.bool (by simp), hS⟩
theorem g71 (x y : Int) (w : World) : CallsTo Try.prog 71 [.int .i64 x, .int .i64 y] w fun v w' => v = .int .i64 (cmpI x y) ∧ Grew w w' := by
  refine go_in (n := 20) (St.refl _ NoF) Try.func71 rfl rfl ?_
  repeat'(first|refine kv' ?_|apply jJ|refine jE' ?_|refine jp' ?_|(apply jc;kernel_rfl)|refine kg' ?_|refine kG' ?_|refine kB' fun _=>?_|refine kA' fun _=>?_|refine kK' fun _=>?_|refine kU' ?_|(apply kq;(·exact rfl);(·intro w1 h1;exact CallsTo.q (g93 _ w1) h1))|((first|refine kR' ?_ ?_|refine kQ' ?_ ?_);all_goals(intro hc;try simp only[hcs]at hc;try(exfalso;first|contradiction|omega))))
  all_goals (
    (apply ret1; (· exact rfl); intro w' hS)
    refine ⟨congrArg (Value.int .i64) ?_, hS⟩
    unfold cmpI; split <;> (try split) <;> omega)
theorem g103 (x y : Int) (w : World) : CallsTo Try.prog 103 [.int .i64 x, .int .i64 y] w fun v w' => v = .int .i64 (cmpI x y) ∧ Grew w w' := by
  refine go_in (n := 11) (St.refl _ NoF) Try.func103 rfl rfl ?_
  repeat'(first|refine kv' ?_|apply jJ|refine jE' ?_|refine jp' ?_|(apply jc;kernel_rfl)|refine kg' ?_|refine kG' ?_|refine kB' fun _=>?_|refine kA' fun _=>?_|refine kK' fun _=>?_|refine kU' ?_|((first|refine kR' ?_ ?_|refine kQ' ?_ ?_);all_goals(intro hc;try simp only[hcs]at hc;try(exfalso;first|contradiction|omega))))
  all_goals (
    (apply ret1; (· exact rfl); intro w' hS)
    refine ⟨congrArg (Value.int .i64) ?_, hS⟩
    unfold cmpI; split <;> (try split) <;> omega)
theorem orL_skip {l : List Int} {i : Nat} (h : i < l.length) (h0 : l[i] = 0) : orL (l.drop i) = orL (l.drop (i + 1)) := by
  rw [List.drop_eq_getElem_cons h, orL, if_neg (by simp [h0])]
theorem orL_hit {l : List Int} {i : Nat} (h : i < l.length) (h0 : ¬ l[i] = 0) : orL (l.drop i) = l[i] := by
  rw [List.drop_eq_getElem_cons h, orL, if_pos h0]
theorem g70 (a : Option Addr) (c : Nat) (l : List Int) (w : World) (hr : Rd w a (iv l)) (hm : l.length ≤ 1000) : CallsTo Try.prog 70 [.slice a l.length c] w fun v w' => v = .int .i64 (orL l) ∧ Grew w w' := by
  refine go_in (n := 18) (St.rd1 hr) Try.func70 rfl rfl ?_
  repeat'(first|refine kv' ?_|apply jJ|refine jE' ?_|refine jp' ?_|(apply jc;kernel_rfl)|refine kg' ?_|refine kG' ?_|refine kB' fun _=>?_|refine kA' fun _=>?_|refine kK' fun _=>?_|refine kU' ?_|((first|refine kR' ?_ ?_|refine kQ' ?_ ?_);all_goals(intro hc;try simp only[hcs]at hc;try(exfalso;first|contradiction|omega))))
  apply CW.loop [2, 5, 8, 9, 10, 11, 12, 13, 14, 15, 16] (fun i : Nat => i ≤ l.length ∧ orL l = orL (l.drop i)) (fun i : Nat => [(8, Value.int .i64 i)]) (fun i => St w NoF [rdA a (iv l)]) (fun i => l.length - i)
  · exact fun w' hw' => ⟨0, ⟨by omega, by simp⟩, ⟨rfl, trivial⟩, hw'⟩
  intro i g ⟨hi, heq⟩
  by_cases hlt : i < l.length
  · obtain ⟨ba, oa, rfl⟩ := hr.form (fun e => by have := congrArg List.length e; simp at this; subst this; simp at hlt)
    repeat'(first|refine kv' ?_|apply jJ|refine jE' ?_|refine jp' ?_|(apply jc;kernel_rfl)|refine kg' ?_|refine kG' ?_|refine kB' fun _=>?_|refine kA' fun _=>?_|refine kK' fun _=>?_|refine kU' ?_|(apply idxX;(iterate 2 exact rfl);(iterate 2(first|omega|(dsimp only;omega)));exact rfl)|(apply LR.ev; (· apply Ev.load_rd; (· exact rfl); (· repeat (first | exact mH _ _ | apply mT)); (· exact iv_at (i := i) (by simp) (by omega))); (· exact rfl))|(apply addX;(iterate 2 exact rfl);(iterate 2(first|omega|(dsimp only;omega)));exact rfl)|((first|refine kR' ?_ ?_|refine kQ' ?_ ?_);all_goals(intro hc;try simp only[hcs]at hc;try(exfalso;first|contradiction|omega))))
    · (apply ret1; (· exact rfl); intro w' hS)
      refine ⟨congrArg (Value.int .i64) ?_, hS.toKeep⟩
      rw [heq, orL_hit hlt hc]
    · apply At.again (i + 1) ⟨by omega, by rw [heq]; exact orL_skip hlt hc⟩
      · (repeat (first | exact Out.refl _ _ | exact Out.mix | (apply Out.upd; (· exact rfl)) | (apply Out.updL; (· exact rfl)) | (apply Out.mixs; (· exact rfl))))
      · exact ⟨rfl, trivial⟩
      · exact fun w' hw' => hw'
      · omega
  · repeat'(first|refine kv' ?_|apply jJ|refine jE' ?_|refine jp' ?_|(apply jc;kernel_rfl)|refine kg' ?_|refine kG' ?_|refine kB' fun _=>?_|refine kA' fun _=>?_|refine kK' fun _=>?_|refine kU' ?_|((first|refine kR' ?_ ?_|refine kQ' ?_ ?_);all_goals(intro hc;try simp only[hcs]at hc;try(exfalso;first|contradiction|omega))))
    (apply ret1; (· exact rfl); intro w' hS)
    refine ⟨congrArg (Value.int .i64) ?_, hS.toKeep⟩
    rw [heq, List.drop_of_length_le (by omega)]; rfl
theorem g72 (s r s' r' : Int) (w : World) : CallsTo Try.prog 72 [.agg [.int .i64 s, .int .i64 r].toArray, .agg [.int .i64 s', .int .i64 r'].toArray] w fun v w' => v = .int .i64 (ringsI s r s' r') ∧ Grew w w' := by
  refine go_in (n := 17) (St.refl _ NoF) Try.func72 rfl rfl ?_
  repeat'(first|(apply CW.reg_heldC)|refine kv' ?_|apply jJ|refine jE' ?_|refine jp' ?_|(apply jc;kernel_rfl)|refine kg' ?_|refine kG' ?_|refine kB' fun _=>?_|refine kA' fun _=>?_|refine kK' fun _=>?_|refine kU' ?_|((first|refine kR' ?_ ?_|refine kQ' ?_ ?_);all_goals(intro hc;try simp only[hcs]at hc;try(exfalso;first|contradiction|omega))))
  all_goals (
    apply DW.quiet [0, 1, 2, 3, 5, 6, 7, 8]
    · decide +kernel
    · first | exact fun _ h => h | exact fun _ h => St.sub h subZ
    repeat'(first|refine yv' ?_|refine uv' ?_|refine un' ?_|(refine us' ?_ ?_;all_goals(intro hc;try simp only[hcs]at hc;try(exfalso;first|contradiction|omega)))|apply QL.nil)
    all_goals (show DW _ _ _ _ _ _ _ _))
  all_goals (
    apply DW.loud 4
    · exact rfl
    · decide +kernel
    repeat'(first|refine kg' ?_|refine kG' ?_|apply kM|refine kv' ?_|refine kK' fun _=>?_|refine kU' ?_|refine kB' fun _=>?_|refine kA' fun _=>?_|(apply kq;(·exact rfl);(·intro w1 h1;exact CallsTo.q (g71 _ _ w1) h1))|(apply kq; (· exact rfl); (· intro w1 h1; exact CallsTo.q (g70 (some ⟨_, 0, none⟩) 2 [cmpI s s', cmpI r r'] w1 (h1.rd_of_blk memZ) (by simp)) h1)))
    all_goals (refine At.stage_same (fun _ h => St.sub h subZ) ?_))
  all_goals (
    apply DW.loud 9
    · exact rfl
    · decide +kernel
    repeat'(first|refine kg' ?_|refine kG' ?_|apply kM|refine kv' ?_|refine kK' fun _=>?_|refine kU' ?_|refine kB' fun _=>?_|refine kA' fun _=>?_|(apply kq;(·exact rfl);(·intro w1 h1;exact CallsTo.q (g71 _ _ w1) h1))|(apply kq; (· exact rfl); (· intro w1 h1; exact CallsTo.q (g70 (some ⟨_, 0, none⟩) 2 [cmpI s s', cmpI r r'] w1 (h1.rd_of_blk memZ) (by simp)) h1)))
    all_goals (refine At.stage_same (fun _ h => St.sub h subZ) ?_))
  all_goals (
    apply DW.loud 10
    · exact rfl
    · decide +kernel
    repeat'(first|refine kg' ?_|refine kG' ?_|apply kM|refine kv' ?_|refine kK' fun _=>?_|refine kU' ?_|refine kB' fun _=>?_|refine kA' fun _=>?_|(apply kq;(·exact rfl);(·intro w1 h1;exact CallsTo.q (g71 _ _ w1) h1))|(apply kq; (· exact rfl); (· intro w1 h1; exact CallsTo.q (g70 (some ⟨_, 0, none⟩) 2 [cmpI s s', cmpI r r'] w1 (h1.rd_of_blk memZ) (by simp)) h1)))
    all_goals (refine At.stage_same (fun _ h => St.sub h subZ) ?_))
  all_goals (
    apply DW.loud 11
    · exact rfl
    · decide +kernel
    repeat'(first|refine kg' ?_|refine kG' ?_|apply kM|refine kv' ?_|refine kK' fun _=>?_|refine kU' ?_|refine kB' fun _=>?_|refine kA' fun _=>?_|(apply kq;(·exact rfl);(·intro w1 h1;exact CallsTo.q (g71 _ _ w1) h1))|(apply kq; (· exact rfl); (· intro w1 h1; exact CallsTo.q (g70 (some ⟨_, 0, none⟩) 2 [cmpI s s', cmpI r r'] w1 (h1.rd_of_blk memZ) (by simp)) h1)))
    all_goals (refine At.stage_same (fun _ h => St.sub h subZ) ?_))
  all_goals (
    apply DW.quiet [12]
    · decide +kernel
    · first | exact fun _ h => h | exact fun _ h => St.sub h subZ
    repeat'(first|refine yv' ?_|refine uv' ?_|refine un' ?_|(refine us' ?_ ?_;all_goals(intro hc;try simp only[hcs]at hc;try(exfalso;first|contradiction|omega)))|apply QL.nil)
    all_goals (show DW _ _ _ _ _ _ _ _))
  all_goals (first | (apply DW.done_thn; (· decide +kernel)) | (apply DW.done; (· decide +kernel)))
  repeat'(first|refine kv' ?_|apply jJ|refine jE' ?_|refine jp' ?_|(apply jc;kernel_rfl)|refine kg' ?_|refine kG' ?_|refine kB' fun _=>?_|refine kA' fun _=>?_|refine kK' fun _=>?_|refine kU' ?_|((first|refine kR' ?_ ?_|refine kQ' ?_ ?_);all_goals(intro hc;try simp only[hcs]at hc;try(exfalso;first|contradiction|omega))))
  (apply ret1; (· exact rfl); intro w' hS)
  exact ⟨rfl, hS.toKeep⟩
theorem g44 (a b : Ky) (w : World) : CallsTo Try.prog 44 [a.val, b.val] w fun v w' => v = .int .i64 (keysI a b) ∧ Grew w w' := by
  refine go_in (n := 22) (St.refl _ NoF) Try.func44 rfl rfl ?_
  repeat'(first|(apply CW.reg_heldC)|refine kv' ?_|apply jJ|refine jE' ?_|refine jp' ?_|(apply jc;kernel_rfl)|refine kg' ?_|refine kG' ?_|refine kB' fun _=>?_|refine kA' fun _=>?_|refine kK' fun _=>?_|refine kU' ?_|((first|refine kR' ?_ ?_|refine kQ' ?_ ?_);all_goals(intro hc;try simp only[hcs]at hc;try(exfalso;first|contradiction|omega))))
  all_goals (
    apply DW.quiet [0, 1, 2, 3, 5, 6, 7, 8, 10, 11, 12, 13]
    · decide +kernel
    · first | exact fun _ h => h | exact fun _ h => St.sub h subZ
    repeat'(first|refine yv' ?_|refine uv' ?_|refine un' ?_|(refine us' ?_ ?_;all_goals(intro hc;try simp only[hcs]at hc;try(exfalso;first|contradiction|omega)))|apply QL.nil)
    all_goals (show DW _ _ _ _ _ _ _ _))
  all_goals (
    apply DW.loud 4
    · exact rfl
    · decide +kernel
    repeat'(first|refine kg' ?_|refine kG' ?_|apply kM|refine kv' ?_|refine kK' fun _=>?_|refine kU' ?_|refine kB' fun _=>?_|refine kA' fun _=>?_|(apply kq;(·exact rfl);(·intro w1 h1;exact CallsTo.q (g71 _ _ w1) h1))|(apply kq;(·exact rfl);(·intro w1 h1;exact CallsTo.q (g72 _ _ _ _ w1) h1))|(apply kq; (· exact rfl); (· intro w1 h1; exact CallsTo.q (g70 (some ⟨_, 0, none⟩) 3 [cmpI a.t b.t, ringsI a.s a.r b.s b.r, cmpI a.q b.q] w1 (h1.rd_of_blk memZ) (by simp)) h1)))
    all_goals (refine At.stage_same (fun _ h => St.sub h subZ) ?_))
  all_goals (
    apply DW.loud 9
    · exact rfl
    · decide +kernel
    repeat'(first|refine kg' ?_|refine kG' ?_|apply kM|refine kv' ?_|refine kK' fun _=>?_|refine kU' ?_|refine kB' fun _=>?_|refine kA' fun _=>?_|(apply kq;(·exact rfl);(·intro w1 h1;exact CallsTo.q (g71 _ _ w1) h1))|(apply kq;(·exact rfl);(·intro w1 h1;exact CallsTo.q (g72 _ _ _ _ w1) h1))|(apply kq; (· exact rfl); (· intro w1 h1; exact CallsTo.q (g70 (some ⟨_, 0, none⟩) 3 [cmpI a.t b.t, ringsI a.s a.r b.s b.r, cmpI a.q b.q] w1 (h1.rd_of_blk memZ) (by simp)) h1)))
    all_goals (refine At.stage_same (fun _ h => St.sub h subZ) ?_))
  all_goals (
    apply DW.loud 14
    · exact rfl
    · decide +kernel
    repeat'(first|refine kg' ?_|refine kG' ?_|apply kM|refine kv' ?_|refine kK' fun _=>?_|refine kU' ?_|refine kB' fun _=>?_|refine kA' fun _=>?_|(apply kq;(·exact rfl);(·intro w1 h1;exact CallsTo.q (g71 _ _ w1) h1))|(apply kq;(·exact rfl);(·intro w1 h1;exact CallsTo.q (g72 _ _ _ _ w1) h1))|(apply kq; (· exact rfl); (· intro w1 h1; exact CallsTo.q (g70 (some ⟨_, 0, none⟩) 3 [cmpI a.t b.t, ringsI a.s a.r b.s b.r, cmpI a.q b.q] w1 (h1.rd_of_blk memZ) (by simp)) h1)))
    all_goals (refine At.stage_same (fun _ h => St.sub h subZ) ?_))
  all_goals (
    apply DW.loud 15
    · exact rfl
    · decide +kernel
    repeat'(first|refine kg' ?_|refine kG' ?_|apply kM|refine kv' ?_|refine kK' fun _=>?_|refine kU' ?_|refine kB' fun _=>?_|refine kA' fun _=>?_|(apply kq;(·exact rfl);(·intro w1 h1;exact CallsTo.q (g71 _ _ w1) h1))|(apply kq;(·exact rfl);(·intro w1 h1;exact CallsTo.q (g72 _ _ _ _ w1) h1))|(apply kq; (· exact rfl); (· intro w1 h1; exact CallsTo.q (g70 (some ⟨_, 0, none⟩) 3 [cmpI a.t b.t, ringsI a.s a.r b.s b.r, cmpI a.q b.q] w1 (h1.rd_of_blk memZ) (by simp)) h1)))
    all_goals (refine At.stage_same (fun _ h => St.sub h subZ) ?_))
  all_goals (
    apply DW.loud 16
    · exact rfl
    · decide +kernel
    repeat'(first|refine kg' ?_|refine kG' ?_|apply kM|refine kv' ?_|refine kK' fun _=>?_|refine kU' ?_|refine kB' fun _=>?_|refine kA' fun _=>?_|(apply kq;(·exact rfl);(·intro w1 h1;exact CallsTo.q (g71 _ _ w1) h1))|(apply kq;(·exact rfl);(·intro w1 h1;exact CallsTo.q (g72 _ _ _ _ w1) h1))|(apply kq; (· exact rfl); (· intro w1 h1; exact CallsTo.q (g70 (some ⟨_, 0, none⟩) 3 [cmpI a.t b.t, ringsI a.s a.r b.s b.r, cmpI a.q b.q] w1 (h1.rd_of_blk memZ) (by simp)) h1)))
    all_goals (refine At.stage_same (fun _ h => St.sub h subZ) ?_))
  all_goals (
    apply DW.quiet [17]
    · decide +kernel
    · first | exact fun _ h => h | exact fun _ h => St.sub h subZ
    repeat'(first|refine yv' ?_|refine uv' ?_|refine un' ?_|(refine us' ?_ ?_;all_goals(intro hc;try simp only[hcs]at hc;try(exfalso;first|contradiction|omega)))|apply QL.nil)
    all_goals (show DW _ _ _ _ _ _ _ _))
  all_goals (first | (apply DW.done_thn; (· decide +kernel)) | (apply DW.done; (· decide +kernel)))
  repeat'(first|refine kv' ?_|apply jJ|refine jE' ?_|refine jp' ?_|(apply jc;kernel_rfl)|refine kg' ?_|refine kG' ?_|refine kB' fun _=>?_|refine kA' fun _=>?_|refine kK' fun _=>?_|refine kU' ?_|((first|refine kR' ?_ ?_|refine kQ' ?_ ?_);all_goals(intro hc;try simp only[hcs]at hc;try(exfalso;first|contradiction|omega))))
  (apply ret1; (· exact rfl); intro w' hS)
  exact ⟨rfl, hS.toKeep⟩
theorem cmpI_zero {x y : Int} : cmpI x y = 0 ↔ x = y := by unfold cmpI; split <;> (try split) <;> omega
theorem g104 (s r s' r' : Int) (w : World) : CallsTo Try.prog 104 [.agg [.int .i64 s, .int .i64 r].toArray, .agg [.int .i64 s', .int .i64 r'].toArray] w fun v w' => v = .int .i64 (ringsI s r s' r') ∧ Grew w w' := by
  refine go_in (n := 20) (St.refl _ NoF) Try.func104 rfl rfl ?_
  repeat'(first|refine kv' ?_|apply jJ|refine jE' ?_|refine jp' ?_|(apply jc;kernel_rfl)|refine kg' ?_|refine kG' ?_|refine kB' fun _=>?_|refine kA' fun _=>?_|refine kK' fun _=>?_|refine kU' ?_|(apply kq;(·exact rfl);(·intro w1 h1;exact CallsTo.q (g103 _ _ w1) h1))|((first|refine kR' ?_ ?_|refine kQ' ?_ ?_);all_goals(intro hc;try simp only[hcs]at hc;try(exfalso;first|contradiction|omega))))
  · (apply ret1; (· exact rfl); intro w' hS)
    refine ⟨congrArg (Value.int .i64) ?_, hS.toKeep⟩
    simp only [ringsI, orL]; rw [if_pos (fun h => hc (cmpI_zero.1 h))]
  · (apply ret1; (· exact rfl); intro w' hS)
    refine ⟨congrArg (Value.int .i64) ?_, hS.toKeep⟩
    simp only [ringsI, orL]; rw [if_neg (by simp [cmpI_zero, hc])]
    split <;> simp_all
theorem g81 (a b : Ky) (w : World) : CallsTo Try.prog 81 [a.val, b.val] w fun v w' => v = .int .i64 (keysI a b) ∧ Grew w w' := by
  refine go_in (n := 31) (St.refl _ NoF) Try.func81 rfl rfl ?_
  repeat'(first|refine kv' ?_|apply jJ|refine jE' ?_|refine jp' ?_|(apply jc;kernel_rfl)|refine kg' ?_|refine kG' ?_|refine kB' fun _=>?_|refine kA' fun _=>?_|refine kK' fun _=>?_|refine kU' ?_|(apply kq;(·exact rfl);(·intro w1 h1;exact CallsTo.q (g103 _ _ w1) h1))|(apply kq;(·exact rfl);(·intro w1 h1;exact CallsTo.q (g104 _ _ _ _ w1) h1))|((first|refine kR' ?_ ?_|refine kQ' ?_ ?_);all_goals(intro hc;try simp only[hcs]at hc;try(exfalso;first|contradiction|omega))))
  all_goals (
    (apply ret1; (· exact rfl); intro w' hS)
    refine ⟨congrArg (Value.int .i64) ?_, hS.toKeep⟩
    simp only [keysI, orL]
    have z := @cmpI_zero a.t b.t
    first
    | (rw [if_pos (fun h => hc (z.1 h))]; done)
    | (rw [if_neg (by simp_all), if_pos (by assumption)]; done)
    | (rw [if_neg (by simp_all), if_neg (by simp_all)]; split <;> simp_all))
theorem cmpI_anti (x y : Int) : cmpI x y = - cmpI y x := by unfold cmpI; split <;> (try split) <;> (try split) <;> omega
theorem ringsI_anti (s r s' r' : Int) : ringsI s r s' r' = - ringsI s' r' s r := by
  have h1 := cmpI_anti s s'
  have h2 := cmpI_anti r r'
  simp only [ringsI, orL]
  split <;> split <;> (try split) <;> (try split) <;> omega
theorem keysI_anti (a b : Ky) : keysI a b = - keysI b a := by
  have h1 := cmpI_anti a.t b.t
  have h2 := ringsI_anti a.s a.r b.s b.r
  have h3 := cmpI_anti a.q b.q
  simp only [keysI, orL]
  split <;> split <;> (try split) <;> (try split) <;> (try split) <;> (try split) <;> omega

theorem g54 (a b : Ky) (w : World) : CallsTo Try.prog 54 [a.val, b.val] w fun v w' => v = .bool (aboveB a b) ∧ Grew w w' := by
  refine go_in (n := 14) (St.refl _ NoF) Try.func54 rfl rfl ?_
  repeat'(first|refine kv' ?_|apply jJ|refine jE' ?_|refine jp' ?_|(apply jc;kernel_rfl)|refine kg' ?_|refine kG' ?_|refine kB' fun _=>?_|refine kA' fun _=>?_|refine kK' fun _=>?_|refine kU' ?_|(apply kq; (· exact rfl); (· intro w1 h1; exact CallsTo.q (c60 a.t a.s a.r a.q w1) h1))|(apply kq; (· exact rfl); (· intro w1 h1; exact CallsTo.q (g44 a b w1) h1))|((first|refine kR' ?_ ?_|refine kQ' ?_ ?_);all_goals(intro hc;try simp only[hcs]at hc;try(exfalso;first|contradiction|omega))))
  all_goals (
    (apply ret1; (· exact rfl); intro w' hS)
    refine ⟨congrArg Value.bool ?_, hS.toKeep⟩
    simp_all [aboveB, okK])
theorem g79 (a b : Ky) (w : World) : CallsTo Try.prog 79 [a.val, b.val] w fun v w' => v = .bool (aboveB a b) ∧ Grew w w' := by
  refine go_in (n := 14) (St.refl _ NoF) Try.func79 rfl rfl ?_
  repeat'(first|refine kv' ?_|apply jJ|refine jE' ?_|refine jp' ?_|(apply jc;kernel_rfl)|refine kg' ?_|refine kG' ?_|refine kB' fun _=>?_|refine kA' fun _=>?_|refine kK' fun _=>?_|refine kU' ?_|(apply kq; (· exact rfl); (· intro w1 h1; exact CallsTo.q (c63 a.t a.s a.r a.q w1) h1))|(apply kq; (· exact rfl); (· intro w1 h1; exact CallsTo.q (g81 a b w1) h1))|((first|refine kR' ?_ ?_|refine kQ' ?_ ?_);all_goals(intro hc;try simp only[hcs]at hc;try(exfalso;first|contradiction|omega))))
  all_goals (
    (apply ret1; (· exact rfl); intro w' hS)
    refine ⟨congrArg Value.bool ?_, hS.toKeep⟩
    simp_all [aboveB, okK])
end Go.Proofs.Ytphcnaafhcfakaa

namespace Go.Hb

theorem lst_foldl_comm (a : Array Bool) (i j : Nat) : (a.setIfInBounds i true).setIfInBounds j true = (a.setIfInBounds j true).setIfInBounds i true := by
  by_cases h : i = j
  · subst h; rfl
  · exact Array.setIfInBounds_comm _ _ h
theorem lst_perm {ops : List Oper} {l l' : List Nat} (h : l.Perm l') : lst ops l = lst ops l' := by
  unfold lst
  exact h.foldl_eq' (fun x _ y _ z => lst_foldl_comm z x y) _
theorem lst_getD {ops : List Oper} : ∀ {l : List Nat} {j : Nat} (d : Bool), j < ops.length → (lst ops l).getD j d = l.contains j := by
  intro l
  have gen : ∀ (l : List Nat) (a : Array Bool) (j : Nat) (d : Bool), j < a.size → (l.foldl (fun l i => l.setIfInBounds i true) a).getD j d = (l.contains j || a.getD j d) := by
    intro l
    induction l with
    | nil => intro a j d _; simp
    | cons x r ih =>
      intro a j d hj
      rw [List.foldl_cons, ih _ _ _ (by simpa using hj)]
      by_cases hx : x = j
      · subst hx; simp [hj]
      · have e : (a.setIfInBounds x true).getD j d = a.getD j d := by simp [Array.getElem?_setIfInBounds_ne hx]
        have e2 : (j == x) = false := by simpa using fun h => hx h.symm
        rw [e, List.contains_cons, e2, Bool.false_or]
  intro j d hj
  unfold lst
  rw [gen _ _ _ _ (by simpa using hj)]
  simp [hj]
theorem ready_more {ops : List Oper} {l : List Nat} {j : Nat} (h : j ∈ Region.ready .any ops.toArray (lst ops l)) : ∀ (l' : List Nat), (∀ x ∈ l', j ≠ x) → j ∈ Region.ready .any ops.toArray (lst ops (l ++ l')) := by
  intro l'
  induction l' generalizing l with
  | nil => intro _; simpa using h
  | cons x r ih =>
    intro hx
    have := ready_mono (i := x) h (hx x List.mem_cons_self)
    rw [← lst_snoc] at this
    have h2 := ih this (fun y hy => hx y (List.mem_cons_of_mem _ hy))
    simpa using h2
theorem ready_new {ops : List Oper} {l : List Nat} {j : Nat} (h : j ∈ Region.ready .any ops.toArray (lst ops l)) : j ∉ l := by
  obtain ⟨h0, o, ho, _⟩ := mem_ready.1 h
  have hj : j < ops.length := by simpa using (Array.getElem?_eq_some_iff.1 ho).1
  rw [lst_getD _ hj] at h0
  simpa using h0

theorem St.pushL {w0 w w' : World} {F : Nat → Prop} {L A : List Asrt} (h : St w0 F L w) (hA : St w NoF A w') (he : ∀ x ∈ A, x.excl = true) : St w0 F (A ++ L) w' := by
  have h' := h.grew hA.toKeep
  have hnew : ∀ a ∈ A, ∀ k, a.foot k → w.heap.size ≤ k := fun a ha k hk => Nat.le_of_not_lt fun hlt => hA.mine a ha (he a ha) k hk hlt
  refine ⟨h'.os, h'.tape, h'.output, h'.size, h'.keep, ?_, ?_, ?_, ?_, ?_⟩
  · intro a ha; rcases List.mem_append.1 ha with ha | ha
    · exact hA.holds a ha
    · exact h'.holds a ha
  · intro a ha; rcases List.mem_append.1 ha with ha | ha
    · exact hA.live a ha
    · exact h'.live a ha
  · intro a ha hx k hk hlt; rcases List.mem_append.1 ha with ha | ha
    · have := hnew a ha k hk; have := h.size; omega
    · exact h'.mine a ha hx k hk hlt
  · refine List.pairwise_append.2 ⟨hA.dis, h'.dis, fun a ha b hb _ k hk hk2 => ?_⟩
    have := hnew a ha k hk; have := h.live b hb k hk2; omega
  · intro a ha; rcases List.mem_append.1 ha with ha | ha
    · exact hA.dep a ha
    · exact h'.dep a ha

structure PI (P : Program) (n : Nat) (ops : List Oper) where
  i : Nat
  d : Nat
  vs : List (Nat × Value)
  C : World → Prop
  val : Nat → Value
  A : Nat → List Asrt
  ok : ∀ (Q : Exit → Act → World → Prop) (h : Frm) (w : World) (a : Act) (K : Act → World → Prop), Has h vs → C w → Fits n a h → (∀ b w' a', St w NoF (A b) w' → Fits n a' (upd h d (val b)) → K a' w') → wpOp P ops.toArray Q i K a w
  ex : ∀ b, ∀ x ∈ A b, x.excl = true

section
variable {P : Program} {n : Nat} {ops : List Oper} {Q : Post} {f : Frm} {C S : World → Prop}

def sF : List (PI P n ops × Option Nat) → Frm → Frm
  | [], f => f
  | (p, some b) :: r, f => upd (sF r f) p.d (p.val b)
  | (_, none) :: r, f => sF r f
def sL : List (PI P n ops × Option Nat) → List Asrt
  | [] => []
  | (p, some b) :: r => p.A b ++ sL r
  | (_, none) :: r => sL r
def sD : List (PI P n ops × Option Nat) → List Nat
  | [] => []
  | (p, some _) :: r => p.i :: sD r
  | (_, none) :: r => sD r
def nD : List (PI P n ops × Option Nat) → List Nat
  | [] => []
  | (_, some _) :: r => nD r
  | (p, none) :: r => p.d :: nD r
def nI : List (PI P n ops × Option Nat) → List Nat
  | [] => []
  | (_, some _) :: r => nI r
  | (p, none) :: r => p.i :: nI r

variable {σ σ1 σ2 : List (PI P n ops × Option Nat)} {p : PI P n ops} {b : Nat}
theorem sL_set : (sL (σ1 ++ (p, some b) :: σ2)).Perm (p.A b ++ sL (σ1 ++ (p, none) :: σ2)) := by
  induction σ1 with
  | nil => exact List.Perm.refl _
  | cons x r ih =>
    obtain ⟨q, o⟩ := x
    cases o with
    | none => exact ih
    | some c =>
      show (q.A c ++ sL (r ++ (p, some b) :: σ2)).Perm (p.A b ++ (q.A c ++ sL (r ++ (p, none) :: σ2)))
      refine (ih.append_left _).trans ?_
      rw [← List.append_assoc, ← List.append_assoc]
      exact List.perm_append_comm.append_right _
theorem sD_set : (sD (σ1 ++ (p, some b) :: σ2)).Perm (p.i :: sD (σ1 ++ (p, none) :: σ2)) := by
  induction σ1 with
  | nil => exact List.Perm.refl _
  | cons x r ih =>
    obtain ⟨q, o⟩ := x
    cases o with
    | none => exact ih
    | some c => exact (ih.cons q.i).trans (List.Perm.swap _ _ _)
theorem sDnI : ∀ (σ : List (PI P n ops × Option Nat)), (sD σ ++ nI σ).Perm ((σ.map Prod.fst).map PI.i)
  | [] => List.Perm.refl _
  | (p, some b) :: r => (sDnI r).cons p.i
  | (p, none) :: r => by
    show (sD r ++ p.i :: nI r).Perm (p.i :: (r.map Prod.fst).map PI.i)
    exact List.perm_middle.trans ((sDnI r).cons p.i)
theorem sF_off : ∀ {σ : List (PI P n ops × Option Nat)} {t : Nat}, t ∉ (σ.map Prod.fst).map PI.d → sF σ f t = f t
  | [], t, _ => rfl
  | (p, some b) :: r, t, h => by
    simp only [List.map_cons, List.mem_cons, not_or] at h
    show upd _ _ _ t = _
    rw [upd_ne _ _ _ _ h.1, sF_off h.2]
  | (p, none) :: r, t, h => by
    simp only [List.map_cons, List.mem_cons, not_or] at h
    exact sF_off (σ := r) h.2
theorem nD_sub : ∀ {σ : List (PI P n ops × Option Nat)} {t : Nat}, t ∈ nD σ → t ∈ (σ.map Prod.fst).map PI.d
  | (p, some b) :: r, t, h => by simp only [List.map_cons]; exact List.mem_cons_of_mem _ (nD_sub (σ := r) h)
  | (p, none) :: r, t, h => by
    simp only [List.map_cons]
    rcases List.mem_cons.1 h with rfl | h
    · exact List.mem_cons_self
    · exact List.mem_cons_of_mem _ (nD_sub (σ := r) h)
theorem sF_in {f f' : Frm} : ∀ {σ : List (PI P n ops × Option Nat)} {t : Nat}, ((σ.map Prod.fst).map PI.d).Nodup → t ∈ (σ.map Prod.fst).map PI.d → t ∉ nD σ → sF σ f t = sF σ f' t
  | (p, some b) :: r, t, hn, ht, h => by
    simp only [List.map_cons, List.nodup_cons] at hn
    simp only [List.map_cons] at ht
    show upd _ _ _ t = upd _ _ _ t
    by_cases e : t = p.d
    · subst e; rw [upd_same, upd_same]
    · rw [upd_ne _ _ _ _ e, upd_ne _ _ _ _ e]
      rcases List.mem_cons.1 ht with ht | ht
      · exact absurd ht e
      · exact sF_in (σ := r) hn.2 ht h
  | (p, none) :: r, t, hn, ht, h => by
    simp only [List.map_cons, List.nodup_cons] at hn
    simp only [List.map_cons] at ht
    have h : t ∉ p.d :: nD r := h
    simp only [List.mem_cons, not_or] at h
    rcases List.mem_cons.1 ht with ht | ht
    · exact absurd ht h.1
    · exact sF_in (σ := r) hn.2 ht h.2
theorem sF_set {f : Frm} : ∀ {σ1 : List (PI P n ops × Option Nat)}, (((σ1 ++ (p, none) :: σ2).map Prod.fst).map PI.d).Nodup → sF (σ1 ++ (p, some b) :: σ2) f = upd (sF (σ1 ++ (p, none) :: σ2) f) p.d (p.val b)
  | [], _ => rfl
  | (q, none) :: r, hn => by
    simp only [List.cons_append, List.map_cons, List.nodup_cons] at hn
    exact sF_set (σ1 := r) hn.2
  | (q, some c) :: r, hn => by
    simp only [List.cons_append, List.map_cons, List.nodup_cons] at hn
    have hne : q.d ≠ p.d := fun e => hn.1 (by rw [e]; simp)
    show upd (sF (r ++ (p, some b) :: σ2) f) q.d (q.val c) = upd (upd (sF (r ++ (p, none) :: σ2) f) q.d (q.val c)) p.d (p.val b)
    rw [sF_set (σ1 := r) hn.2]
    funext t
    by_cases h1 : t = q.d
    · subst h1; rw [upd_same, upd_ne _ _ _ _ hne, upd_same]
    · rw [upd_ne _ _ _ _ h1]
      by_cases h2 : t = p.d
      · subst h2; rw [upd_same, upd_same]
      · rw [upd_ne _ _ _ _ h2, upd_ne _ _ _ _ h2, upd_ne _ _ _ _ h1]
theorem nD_set : ∀ {σ1 : List (PI P n ops × Option Nat)} {t : Nat}, t ∈ nD (σ1 ++ (p, none) :: σ2) → t = p.d ∨ t ∈ nD (σ1 ++ (p, some b) :: σ2)
  | [], t, h => List.mem_cons.1 h
  | (q, none) :: r, t, h => by
    rcases List.mem_cons.1 h with rfl | h
    · exact .inr List.mem_cons_self
    · rcases nD_set (σ1 := r) h with h | h
      · exact .inl h
      · exact .inr (List.mem_cons_of_mem _ h)
  | (q, some c) :: r, t, h => nD_set (σ1 := r) h
theorem nI_len : ∀ {σ1 : List (PI P n ops × Option Nat)}, (nI (σ1 ++ (p, none) :: σ2)).length = (nI (σ1 ++ (p, some b) :: σ2)).length + 1
  | [] => rfl
  | (q, none) :: r => by show (nI (r ++ _)).length + 1 = _; exact congrArg (· + 1) (nI_len (σ1 := r))
  | (q, some c) :: r => nI_len (σ1 := r)
theorem nI_find : ∀ {σ : List (PI P n ops × Option Nat)} {j : Nat}, j ∈ nI σ → ∃ σ1 p σ2, σ = σ1 ++ (p, none) :: σ2 ∧ p.i = j
  | (p, none) :: r, j, h => by
    rcases List.mem_cons.1 h with rfl | h
    · exact ⟨[], p, r, rfl, rfl⟩
    · obtain ⟨a, q, c, rfl, e⟩ := nI_find (σ := r) h
      exact ⟨(p, none) :: a, q, c, rfl, e⟩
  | (p, some b) :: r, j, h => by
    obtain ⟨a, q, c, rfl, e⟩ := nI_find (σ := r) h
    exact ⟨(p, some b) :: a, q, c, rfl, e⟩

variable {w0 : World} {F : Nat → Prop} {L : List Asrt} {pend : List (PI P n ops)} {done : List Nat}

def PS (P : Program) (n : Nat) (ops : List Oper) (Q : Post) (done : List Nat) (S : World → Prop) (f : Frm) (w0 : World) (F : Nat → Prop) (L : List Asrt) (σ : List (PI P n ops × Option Nat)) : Prop :=
  ∀ w, St w0 F (L ++ sL σ) w → ∀ g, (∀ t, t ∉ nD σ → g t = sF σ f t) → ∀ a, Fits n a g →
    wpAnyH P .any ops.toArray (lift n (only fun f w => Q .normal f w)) S (ops.length - (done.length + (sD σ).length)) (lst ops (done ++ sD σ)) a w
def DP (P : Program) (n : Nat) (ops : List Oper) (Q : Post) (pend : List (PI P n ops)) (done : List Nat) (S : World → Prop) (f : Frm) (w0 : World) (F : Nat → Prop) (L : List Asrt) : Prop :=
  ∀ σ, σ.map Prod.fst = pend → PS P n ops Q done S f w0 F L σ

def PAll (f : Frm) (w0 : World) (F : Nat → Prop) (L : List Asrt) : List (PI P n ops) → Prop
  | [] => True
  | p :: r => Has f p.vs ∧ (∀ A w, St w0 F (L ++ A) w → p.C w) ∧ PAll f w0 F L r
theorem PAll.get : ∀ {pend : List (PI P n ops)}, PAll f w0 F L pend → ∀ p ∈ pend, Has f p.vs ∧ ∀ A w, St w0 F (L ++ A) w → p.C w
  | q :: r, h, p, hp => by
    rcases List.mem_cons.1 hp with rfl | hp
    · exact ⟨h.1, h.2.1⟩
    · exact PAll.get h.2.2 p hp
theorem has_same {f g : Frm} : ∀ {vs : List (Nat × Value)}, Has f vs → (∀ q ∈ vs, g q.1 = f q.1) → Has g vs
  | [], _, _ => trivial
  | q :: r, h, hg => ⟨(hg q List.mem_cons_self).trans h.1, has_same h.2 fun x hx => hg x (List.mem_cons_of_mem _ hx)⟩
def pOk (pend : List (PI P n ops)) : Bool :=
  decide (pend.map PI.i).Nodup && decide (pend.map PI.d).Nodup && pend.all fun p => p.vs.all fun q => !(pend.map PI.d).contains q.1
def pOkL (is ds : List Nat) (vss : List (List Nat)) : Bool := decide is.Nodup && decide ds.Nodup && vss.all fun l => l.all fun q => !ds.contains q
theorem pOk_of {is ds : List Nat} {vss : List (List Nat)} (h1 : pend.map PI.i = is) (h2 : pend.map PI.d = ds) (h3 : (pend.map fun p => p.vs.map Prod.fst) = vss) (h : pOkL is ds vss = true) : pOk pend = true := by
  subst h1 h2 h3
  simpa [pOk, pOkL, List.all_map, Function.comp_def] using h

theorem PS.exec (hp : pOk pend = true) (hall : PAll f w0 F L pend) (hS : ∀ A w, St w0 F (L ++ A) w → S w) (he : σ1.map Prod.fst ++ p :: σ2.map Prod.fst = pend) (hlen : done.length + (sD (σ1 ++ (p, none) :: σ2)).length < ops.length)
    (ih : ∀ b, PS P n ops Q done S f w0 F L (σ1 ++ (p, some b) :: σ2)) {w : World} (hw : St w0 F (L ++ sL (σ1 ++ (p, none) :: σ2)) w) {g : Frm} (hg : ∀ t, t ∉ nD (σ1 ++ (p, none) :: σ2) → g t = sF (σ1 ++ (p, none) :: σ2) f t) {a : Act} (ha : Fits n a g) {fuel : Nat} (hf : ops.length - (done.length + (sD (σ1 ++ (p, none) :: σ2)).length) = fuel + 1) :
    wpOp P ops.toArray (lift n (only fun f w => Q .normal f w)) p.i (fun a' w' => S w' ∧ wpAnyH P .any ops.toArray (lift n (only fun f w => Q .normal f w)) S fuel ((lst ops (done ++ sD (σ1 ++ (p, none) :: σ2))).setIfInBounds p.i true) a' w') a w := by
  have hpm : p ∈ pend := by rw [← he]; simp
  obtain ⟨hh, hC⟩ := hall.get p hpm
  simp only [pOk, Bool.and_eq_true, decide_eq_true_eq, List.all_eq_true] at hp
  obtain ⟨⟨hn1, hn2⟩, hn3⟩ := hp
  have hmap : ∀ o, (σ1 ++ (p, o) :: σ2).map Prod.fst = pend := fun o => by rw [List.map_append, List.map_cons]; exact he
  have hd2 : (((σ1 ++ (p, none) :: σ2).map Prod.fst).map PI.d).Nodup := by rw [hmap]; exact hn2
  refine p.ok _ g w a _ (has_same hh fun q hq => ?_) (hC _ _ hw) ha fun b w' a' hb ha' => ?_
  · have h3 := hn3 p hpm q hq
    have h4 : q.1 ∉ ((σ1 ++ (p, none) :: σ2).map Prod.fst).map PI.d := by rw [hmap]; simpa using h3
    rw [hg _ (fun hx => h4 (nD_sub hx)), sF_off h4]
  · have h1 : St w0 F (L ++ sL (σ1 ++ (p, some b) :: σ2)) w' := by
      refine (hw.pushL hb (p.ex b)).perm ?_
      refine List.Perm.trans ?_ (sL_set.symm.append_left L)
      rw [← List.append_assoc, ← List.append_assoc]
      exact List.perm_append_comm.append_right _
    refine ⟨hS _ _ h1, ?_⟩
    have h2 := ih b w' h1 (upd g p.d (p.val b)) (fun t ht => ?_) a' ha'
    · have e1 : lst ops (done ++ sD (σ1 ++ (p, some b) :: σ2)) = (lst ops (done ++ sD (σ1 ++ (p, none) :: σ2))).setIfInBounds p.i true := by
        rw [← lst_snoc]
        refine lst_perm ?_
        rw [List.append_assoc]
        exact (sD_set.trans (List.perm_append_comm (l₁ := [p.i]))).append_left done
      have e2 : ops.length - (done.length + (sD (σ1 ++ (p, some b) :: σ2)).length) = fuel := by
        have := (sD_set (σ1 := σ1) (σ2 := σ2) (p := p) (b := b)).length_eq
        simp only [List.length_cons] at this
        omega
      rw [e1, e2] at h2
      exact h2
    · rw [sF_set hd2]
      by_cases e : t = p.d
      · subst e; rw [upd_same, upd_same]
      · rw [upd_ne _ _ _ _ e, upd_ne _ _ _ _ e]
        refine hg t fun hx => ?_
        rcases nD_set (b := b) hx with h | h
        · exact e h
        · exact ht h

theorem DP.begin (pend : List (PI P n ops)) (h : DP P n ops Q pend done S f w0 F L) : DW P n ops Q done S f (St w0 F L) := by
  intro w hw a ha
  have key : ∀ (pd : List (PI P n ops)), sL (pd.map fun p => (p, (none : Option Nat))) = [] ∧ sD (pd.map fun p => (p, (none : Option Nat))) = [] ∧ ∀ f, sF (pd.map fun p => (p, (none : Option Nat))) f = f := by
    intro pd
    induction pd with
    | nil => exact ⟨rfl, rfl, fun _ => rfl⟩
    | cons q r ih => exact ⟨ih.1, ih.2.1, ih.2.2⟩
  obtain ⟨k1, k2, k3⟩ := key pend
  have := h (pend.map fun p => (p, none)) (by simp [List.map_map, Function.comp_def]) w (by rw [k1, List.append_nil]; exact hw) f (fun t _ => by rw [k3]) a ha
  rw [k2, List.append_nil] at this
  exact this
theorem DP.nil (h : DW P n ops Q done S f (St w0 F L)) : DP P n ops Q [] done S f w0 F L := by
  intro σ hσ w hw g hg a ha
  have : σ = [] := List.map_eq_nil_iff.1 hσ
  subst this
  have e : g = f := funext fun t => hg t (by simp [nD])
  subst e
  have := h w (by simpa [sL] using hw) a ha
  simpa [sD] using this
theorem DP.more (p : PI P n ops) (h : DP P n ops Q (p :: pend) done S f w0 F L) : DP P n ops Q pend done S f w0 F L := by
  intro σ hσ w hw g hg a ha
  refine h ((p, none) :: σ) (by simp [hσ]) w hw g (fun t ht => hg t fun hx => ht (List.mem_cons_of_mem _ hx)) a ha

theorem sD_le : ∀ (σ : List (PI P n ops × Option Nat)), (sD σ).length + (nI σ).length = σ.length
  | [] => rfl
  | (p, some b) :: r => by have := sD_le r; simp only [sD, nI, List.length_cons]; omega
  | (p, none) :: r => by have := sD_le r; simp only [sD, nI, List.length_cons]; omega

def pnext (P : Program) (n : Nat) (ops : List Oper) (Q : Post) (pend : List (PI P n ops)) (done : List Nat) (S : World → Prop) (w0 : World) (F : Nat → Prop) (g : Frm) (A : List Asrt) : Post :=
  only fun f' w' => ∃ (L' : List Asrt) (f'' : Frm), (∀ t, f' t = bif (pend.map PI.d).contains t then g t else f'' t) ∧ St w0 F (L' ++ A) w' ∧ (∀ A w, St w0 F (L' ++ A) w → S w) ∧ DP P n ops Q pend done S f'' w0 F L'

theorem wpOp_of_LR {R : Frm → World → Prop} {i : Nat} {o : Oper} (hi : ops[i]? = some o) {w : World} {a : Act} (ha : Fits n a f) (hC : C w) (h : LR false P n ops [o] (only R) f C) {K : Act → World → Prop} {Qx : Exit → Act → World → Prop}
    (hK : ∀ a' f' w', Fits n a' f' → R f' w' → K a' w') : wpOp P ops.toArray Qx i K a w := by
  have h1 := h w hC a ha
  have ho : ops.toArray[i]? = some o := by simpa using hi
  unfold wpOp
  simp only [ho]
  simp only [wpList] at h1
  have conv : ∀ a' w', lift n (only R) .normal a' w' → K a' w' := by
    intro a' w' hq
    obtain ⟨f', hf', _, hR⟩ := hq
    exact hK a' f' w' hf' hR
  split
  · rename_i hwn
    rw [if_pos hwn] at h1
    rcases h1 with h1 | ⟨_, a', w', f', hf', he, _⟩
    · refine .inl ?_
      have h2 := Oper.wp_mono conv h1
      unfold Oper.wp at h2 ⊢
      generalize (execOp a.eval o).run P w = r at *
      cases r with
      | ok nx w' =>
        cases nx <;> simp only [Oper.upon] at h2 ⊢
        case value => exact h2
        case skip => exact h2
        case defer => exact h2
        case enter g args =>
          refine Calls.mono h2 fun e w'' he => ?_
          cases e with
          | returned u => exact he
          | panicked c => obtain ⟨_, _, he, _⟩ := he; cases he
          | outgrown => obtain ⟨_, _, _, _, he, _⟩ := he; cases he
        case row => exact h2
      | halt x w' =>
        cases x <;> simp only [Oper.upon] at h2 ⊢
        case panic => obtain ⟨_, _, he, _⟩ := h2; cases he
    · cases he
  · rename_i hwn
    rw [if_neg hwn] at h1
    exact conv _ _ h1

theorem DP.loud (i : Nat) {o : Oper} (hi : ops[i]? = some o)
    (hr : (pOk pend && (Region.ready .any ops.toArray (lst ops done)).contains i && (Region.ready .any ops.toArray (lst ops (done ++ pend.map PI.i))).all (fun j => Nat.beq j i) && !(pend.map PI.i).contains i && Nat.blt (done.length + pend.length) ops.length) = true)
    (hall : PAll f w0 F L pend) (hS : ∀ A w, St w0 F (L ++ A) w → S w)
    (h : ∀ g A LA, LA = L ++ A → LR false P n ops [o] (pnext P n ops Q pend (done ++ [i]) S w0 F g A) (mix (pend.map PI.d) g f) (St w0 F LA)) : DP P n ops Q pend done S f w0 F L := by
  simp only [Bool.and_eq_true] at hr
  obtain ⟨⟨⟨⟨hp, hri⟩, hra⟩, hni⟩, hl⟩ := hr
  have hri : i ∈ Region.ready .any ops.toArray (lst ops done) := by simpa using hri
  have hni : i ∉ pend.map PI.i := by
    intro hx
    have : (pend.map PI.i).contains i = true := List.elem_eq_true_of_mem hx
    rw [this] at hni; cases hni
  have hl := blt_lt hl
  have hp' := hp
  simp only [pOk, Bool.and_eq_true, decide_eq_true_eq, List.all_eq_true] at hp'
  obtain ⟨⟨hn1, hn2⟩, hn3⟩ := hp'
  suffices key : ∀ m σ, (nI σ).length = m → σ.map Prod.fst = pend → PS P n ops Q done S f w0 F L σ from fun σ hσ => key _ σ rfl hσ
  intro m
  induction m with
  | zero | succ m ih =>
    intro σ hm hσ w hw g hg a ha
    have hlen : (sD σ).length + (nI σ).length = pend.length := by rw [sD_le, ← hσ]; simp
    have hdn := sDnI σ
    rw [hσ] at hdn
    obtain ⟨fuel, hfuel⟩ : ∃ fuel, ops.length - (done.length + (sD σ).length) = fuel + 1 := ⟨ops.length - (done.length + (sD σ).length) - 1, by omega⟩
    rw [hfuel]
    have hsD : ∀ x ∈ sD σ, x ∈ pend.map PI.i := fun x hx => hdn.mem_iff.1 (List.mem_append_left _ hx)
    have hir : i ∈ Region.ready .any ops.toArray (lst ops (done ++ sD σ)) := ready_more hri _ fun x hx e => hni (e ▸ hsD x hx)
    refine ⟨fun h0 => (by rw [h0] at hir; cases hir), fun j hj => ?_⟩
    by_cases hjp : j ∈ nI σ
    · first
      | (rw [List.eq_nil_of_length_eq_zero hm] at hjp; cases hjp; done)
      | (obtain ⟨σ1, p, σ2, rfl, rfl⟩ := nI_find hjp
         refine PS.exec hp hall hS (by rw [← hσ, List.map_append, List.map_cons]) (by omega) (fun b => ih _ ?_ ?_) hw hg ha hfuel
         · have := nI_len (σ1 := σ1) (σ2 := σ2) (p := p) (b := b); omega
         · rw [← hσ]; simp)
    · have hjr : j ∈ Region.ready .any ops.toArray (lst ops (done ++ pend.map PI.i)) := by
        have h1 := ready_more hj (nI σ) (fun x hx e => hjp (e ▸ hx))
        rwa [lst_perm (l' := done ++ pend.map PI.i) (by rw [List.append_assoc]; exact hdn.append_left done)] at h1
      have hji : j = i := Nat.eq_of_beq_eq_true (List.all_eq_true.1 hra j hjr)
      subst hji
      have hmix : mix (pend.map PI.d) g f = g := by
        funext t
        simp only [mix]
        cases hc : (pend.map PI.d).contains t with
        | true => rfl
        | false =>
          have ht : t ∉ (σ.map Prod.fst).map PI.d := by
            rw [hσ]; intro hx; have hx' : (pend.map PI.d).contains t = true := List.elem_eq_true_of_mem hx; rw [hx'] at hc; cases hc
          rw [cond_false, hg t (fun hx => ht (nD_sub hx)), sF_off ht]
      have hLR := h g (sL σ) _ rfl
      rw [hmix] at hLR
      refine wpOp_of_LR hi ha hw hLR fun a' f' w' hf' ⟨L', f'', h1, h2, h3, h4⟩ => ⟨h3 _ _ h2, ?_⟩
      have h5 := h4 σ hσ w' h2 f' (fun t ht => ?_) a' hf'
      · have e1 : lst ops (done ++ [j] ++ sD σ) = (lst ops (done ++ sD σ)).setIfInBounds j true := by
          rw [← lst_snoc]
          refine lst_perm ?_
          rw [List.append_assoc, List.append_assoc]
          exact List.perm_append_comm.append_left done
        have e2 : ops.length - ((done ++ [j]).length + (sD σ).length) = fuel := by simp only [List.length_append, List.length_cons, List.length_nil]; omega
        rw [e1, e2] at h5
        exact h5
      · rw [h1 t]
        cases hc : (pend.map PI.d).contains t with
        | true =>
          have ht2 : t ∈ (σ.map Prod.fst).map PI.d := by rw [hσ]; simpa using hc
          rw [cond_true, hg t ht]
          exact sF_in (by rw [hσ]; exact hn2) ht2 ht
        | false =>
          have ht2 : t ∉ (σ.map Prod.fst).map PI.d := by
            rw [hσ]; intro hx; have hx' : (pend.map PI.d).contains t = true := List.elem_eq_true_of_mem hx; rw [hx'] at hc; cases hc
          rw [cond_false, sF_off ht2]

theorem DP.settle {r : List (PI P n ops)}
    (hr : (pOk (p :: r) && (Region.ready .any ops.toArray (lst ops done)).contains p.i && (Region.ready .any ops.toArray (lst ops (done ++ r.map PI.i))).all (fun j => Nat.beq j p.i) && Nat.blt (done.length + r.length) ops.length) = true)
    (hall : PAll f w0 F L (p :: r)) (hS : ∀ A w, St w0 F (L ++ A) w → S w)
    (h : ∀ b, DP P n ops Q r (done ++ [p.i]) S (upd f p.d (p.val b)) w0 F (p.A b ++ L)) : DP P n ops Q (p :: r) done S f w0 F L := by
  simp only [Bool.and_eq_true] at hr
  obtain ⟨⟨⟨hp, hri⟩, hra⟩, hl⟩ := hr
  have hri : p.i ∈ Region.ready .any ops.toArray (lst ops done) := by simpa using hri
  have hl := blt_lt hl
  have hp' := hp
  simp only [pOk, Bool.and_eq_true, decide_eq_true_eq, List.all_eq_true] at hp'
  obtain ⟨⟨hn1, hn2⟩, hn3⟩ := hp'
  have hn1' := List.nodup_cons.1 (show (p.i :: r.map PI.i).Nodup from hn1)
  have hn2' := List.nodup_cons.1 (show (p.d :: r.map PI.d).Nodup from hn2)
  suffices key : ∀ m σ, (nI σ).length = m → σ.map Prod.fst = p :: r → PS P n ops Q done S f w0 F L σ from fun σ hσ => key _ σ rfl hσ
  intro m
  induction m with
  | zero | succ m ih =>
    intro σ hm hσ w hw g hg a ha
    match σ, hσ, hm, hw, hg with
    | (q, some b) :: τ, hσ, hm, hw, hg =>
      simp only [List.map_cons, List.cons.injEq] at hσ
      obtain ⟨rfl, hτ⟩ := hσ
      have h5 := h b τ hτ w (hw.perm (by
        show (L ++ (q.A b ++ sL τ)).Perm (q.A b ++ L ++ sL τ)
        rw [← List.append_assoc]
        exact List.perm_append_comm.append_right _)) g (fun t ht => by
          rw [hg t ht]
          show upd (sF τ f) q.d (q.val b) t = _
          by_cases e : t = q.d
          · subst e
            rw [upd_same, sF_off (by rw [hτ]; exact hn2'.1), upd_same]
          · rw [upd_ne _ _ _ _ e]
            by_cases ht2 : t ∈ (τ.map Prod.fst).map PI.d
            · exact sF_in (by rw [hτ]; exact hn2'.2) ht2 ht
            · rw [sF_off ht2, sF_off ht2, upd_ne _ _ _ _ e]) a ha
      have e1 : lst ops (done ++ [q.i] ++ sD τ) = lst ops (done ++ sD ((q, some b) :: τ)) := by rw [List.append_assoc]; rfl
      have e2 : (done ++ [q.i]).length + (sD τ).length = done.length + (sD ((q, some b) :: τ)).length := by simp [sD]; omega
      rw [e1, e2] at h5
      exact h5
    | (q, none) :: τ, hσ, hm, hw, hg =>
      simp only [List.map_cons, List.cons.injEq] at hσ
      obtain ⟨rfl, hτ⟩ := hσ
      first
      | (simp only [nI, List.length_cons, Nat.add_one_ne_zero] at hm; done)
      | (
      have hlen : (sD τ).length + (nI τ).length = r.length := by rw [sD_le, ← hτ]; simp
      have hdn := sDnI τ
      rw [hτ] at hdn
      have hsd : sD ((q, none) :: τ) = sD τ := rfl
      obtain ⟨fuel, hfuel⟩ : ∃ fuel, ops.length - (done.length + (sD ((q, none) :: τ)).length) = fuel + 1 := ⟨ops.length - (done.length + (sD τ).length) - 1, by rw [hsd]; omega⟩
      rw [hfuel]
      have hsD : ∀ x ∈ sD τ, x ∈ r.map PI.i := fun x hx => hdn.mem_iff.1 (List.mem_append_left _ hx)
      have hir : q.i ∈ Region.ready .any ops.toArray (lst ops (done ++ sD τ)) := ready_more hri _ fun x hx e => hn1'.1 (e ▸ hsD x hx)
      rw [hsd]
      refine ⟨fun h0 => (by rw [h0] at hir; cases hir), fun j hj => ?_⟩
      have hjn : j ∈ nI ((q, none) :: τ) := by
        by_cases hjp : j ∈ nI τ
        · exact List.mem_cons_of_mem _ hjp
        · have hjr : j ∈ Region.ready .any ops.toArray (lst ops (done ++ r.map PI.i)) := by
            have h1 := ready_more hj (nI τ) (fun x hx e => hjp (e ▸ hx))
            rwa [lst_perm (l' := done ++ r.map PI.i) (by rw [List.append_assoc]; exact hdn.append_left done)] at h1
          have hji : j = q.i := Nat.eq_of_beq_eq_true (List.all_eq_true.1 hra j hjr)
          rw [hji]; exact List.mem_cons_self
      obtain ⟨σ1, p', σ2, e, rfl⟩ := nI_find hjn
      have hm' : σ1.map Prod.fst ++ p' :: σ2.map Prod.fst = q :: r := by
        have := congrArg (List.map Prod.fst) e
        rw [List.map_append, List.map_cons, List.map_cons, hτ] at this
        exact this.symm
      rw [← hsd]
      rw [e] at hw hg hm hfuel ⊢
      refine PS.exec hp hall hS hm' (by rw [← e, hsd]; omega) (fun b => ih _ ?_ ?_) hw hg ha hfuel
      · have := nI_len (σ1 := σ1) (σ2 := σ2) (p := p') (b := b); omega
      · rw [← hm']; simp)
variable {is ds : List Nat} {vss : List (List Nat)}
theorem DP.go (i : Nat) (is ds : List Nat) (vss : List (List Nat)) {o : Oper} (hi : ops[i]? = some o) (h1 : pend.map PI.i = is) (h2 : pend.map PI.d = ds) (h3 : (pend.map fun p => p.vs.map Prod.fst) = vss)
    (hr : (pOkL is ds vss && (Region.ready .any ops.toArray (lst ops done)).contains i && (Region.ready .any ops.toArray (lst ops (done ++ is))).all (fun j => Nat.beq j i) && !is.contains i && Nat.blt (done.length + is.length) ops.length) = true)
    (hall : PAll f w0 F L pend) (hS : ∀ A w, St w0 F (L ++ A) w → S w)
    (h : ∀ g A LA, LA = L ++ A → LR false P n ops [o] (pnext P n ops Q pend (done ++ [i]) S w0 F g A) (mix ds g f) (St w0 F LA)) : DP P n ops Q pend done S f w0 F L := by
  simp only [Bool.and_eq_true] at hr
  have hp := pOk_of h1 h2 h3 hr.1.1.1.1
  have hl : is.length = pend.length := by rw [← h1]; simp
  subst h1 h2
  exact DP.loud i hi (by simp only [Bool.and_eq_true]; exact ⟨⟨⟨⟨hp, hr.1.1.1.2⟩, hr.1.1.2⟩, hr.1.2⟩, by rw [← hl]; exact hr.2⟩) hall hS h
theorem DP.take (i d : Nat) (val : Nat → Value) (A : Nat → List Asrt) (is ds : List Nat) (vss : List (List Nat)) {r : List (PI P n ops)} (hp1 : p.i = i) (hpd : p.d = d) (hpv : p.val = val) (hpA : p.A = A) (h1 : r.map PI.i = is) (h2 : (p :: r).map PI.d = ds) (h3 : ((p :: r).map fun p => p.vs.map Prod.fst) = vss)
    (hr : (pOkL (i :: is) ds vss && (Region.ready .any ops.toArray (lst ops done)).contains i && (Region.ready .any ops.toArray (lst ops (done ++ is))).all (fun j => Nat.beq j i) && Nat.blt (done.length + is.length) ops.length) = true)
    (hall : PAll f w0 F L (p :: r)) (hS : ∀ A w, St w0 F (L ++ A) w → S w)
    (h : ∀ b, DP P n ops Q r (done ++ [i]) S (upd f d (val b)) w0 F (A b ++ L)) : DP P n ops Q (p :: r) done S f w0 F L := by
  simp only [Bool.and_eq_true] at hr
  have hp := pOk_of (pend := p :: r) (is := i :: is) (by rw [List.map_cons, h1, hp1]) h2 h3 hr.1.1.1
  have hl : is.length = r.length := by rw [← h1]; simp
  subst h1 hp1 hpd hpv hpA
  exact DP.settle (by simp only [Bool.and_eq_true]; exact ⟨⟨⟨hp, hr.1.1.2⟩, hr.1.2⟩, by rw [← hl]; exact hr.2⟩) hall hS h

theorem lst_sub {l e : List Nat} {j : Nat} (hj : j < ops.length) (h : (lst ops l).getD j true = true) : (lst ops (l ++ e)).getD j true = true := by
  rw [lst_getD _ hj] at h ⊢
  simp only [List.contains_iff_mem] at h ⊢
  exact List.mem_append_left _ h
theorem free_more {l e : List Nat} {i : Nat} (h : Region.free .any ops.toArray (lst ops l) i = true) : Region.free .any ops.toArray (lst ops (l ++ e)) i = true := by
  unfold Region.free at h ⊢
  split
  · rename_i h0; rw [h0] at h; exact h
  · rename_i oi h0
    rw [h0] at h
    simp only [List.all_eq_true, List.mem_range] at h ⊢
    intro j hj
    have hj' : j < ops.length := by simpa using hj
    have := h j hj
    simp only [Bool.or_eq_true] at this ⊢
    rcases this with (h1 | h1) | h1
    · exact .inl (.inl h1)
    · exact .inl (.inr (lst_sub hj' h1))
    · exact .inr h1
theorem headB_more : ∀ {H l e : List Nat}, headB ops.toArray (lst ops l) H = true → (∀ x ∈ e, x ∉ H) → headB ops.toArray (lst ops (l ++ e)) H = true
  | [], _, _, _, _ => rfl
  | i :: r, l, e, h, he => by
    simp only [headB, Bool.and_eq_true] at h ⊢
    obtain ⟨⟨h1, h2⟩, h3⟩ := h
    refine ⟨⟨?_, free_more h2⟩, ?_⟩
    · have : i ∈ Region.ready .any ops.toArray (lst ops l) := by simpa using h1
      have := ready_more this e (fun x hx e2 => he x hx (e2 ▸ List.mem_cons_self))
      simpa using this
    · rw [← lst_snoc] at h3 ⊢
      have := headB_more (H := r) (e := e) h3 (fun x hx hr => he x hx (List.mem_cons_of_mem _ hr))
      rw [lst_perm (l' := l ++ e ++ [i])] at this
      · exact this
      · rw [List.append_assoc, List.append_assoc]
        exact List.perm_append_comm.append_left l
theorem quiet_go {K : Frm → Prop} {w : World} {R : Frm → World → Prop} : ∀ (H l : List Nat) (fr : Frm) (a : Act) (fuel : Nat), headB ops.toArray (lst ops l) H = true → Region.noSelect ops.toArray = true → QL P n ops S K H fr → Fits n a fr → S w →
    (∀ fr' a', K fr' → Fits n a' fr' → wpAnyH P .any ops.toArray (lift n (only R)) S fuel (lst ops (l ++ H)) a' w) → wpAnyH P .any ops.toArray (lift n (only R)) S (fuel + H.length) (lst ops l) a w
  | [], l, fr, a, fuel, _, _, hq, ha, _, hk => by
    have := hk fr a hq ha
    simpa using this
  | i :: r, l, fr, a, fuel, hB, hs, hq, ha, hS, hk => by
    simp only [headB, Bool.and_eq_true] at hB
    obtain ⟨⟨h1, h2⟩, h3⟩ := hB
    obtain ⟨o, v, ho, hd, hy, hq'⟩ := hq
    have ih := quiet_go (R := R) r (l ++ [i]) _ _ fuel (by rw [lst_snoc]; exact h3) hs hq' (ha.putO o.dst v hd) hS (fun fr' a' hK hf => by
      have := hk fr' a' hK hf
      rw [List.append_assoc]; exact this)
    rw [lst_snoc] at ih
    have e : fuel + (i :: r).length = (fuel + r.length) + 1 := by simp only [List.length_cons]; omega
    rw [e]
    exact wpAnyH_take (by simpa using ho) hs h2 h1 (fun c a w hq => by obtain ⟨_, _, he, _⟩ := hq; cases he) (hy a ha) hS ih
def pq (P : Program) (n : Nat) (ops : List Oper) (Q : Post) (pend : List (PI P n ops)) (done : List Nat) (S : World → Prop) (w0 : World) (F : Nat → Prop) (L : List Asrt) (ds : List Nat) (g : Frm) : Frm → Prop :=
  fun f' => ∃ f'', (∀ t, f' t = bif ds.contains t then g t else f'' t) ∧ DP P n ops Q pend done S f'' w0 F L
theorem DP.quiet (H is ds : List Nat) (h1 : pend.map PI.i = is) (h2 : pend.map PI.d = ds)
    (hr : (decide ds.Nodup && headB ops.toArray (lst ops done) H && Region.noSelect ops.toArray && Nat.ble (done.length + H.length + is.length) ops.length && is.all (fun i => !H.contains i)) = true)
    (hS : ∀ A w, St w0 F (L ++ A) w → S w) (h : ∀ g, QL P n ops S (pq P n ops Q pend (done ++ H) S w0 F L ds g) H (mix ds g f)) : DP P n ops Q pend done S f w0 F L := by
  simp only [Bool.and_eq_true, decide_eq_true_eq] at hr
  obtain ⟨⟨⟨⟨hn2, hB⟩, hs⟩, hl⟩, hd⟩ := hr
  have hl := Nat.le_of_ble_eq_true hl
  have hlen : is.length = pend.length := by rw [← h1]; simp
  subst h1 h2
  intro σ hσ w hw g hg a ha
  have hmix : mix (pend.map PI.d) g f = g := by
    funext t
    simp only [mix]
    cases hc : (pend.map PI.d).contains t with
    | true => rfl
    | false =>
      have ht : t ∉ (σ.map Prod.fst).map PI.d := by
        rw [hσ]; intro hx; have hx' : (pend.map PI.d).contains t = true := List.elem_eq_true_of_mem hx; rw [hx'] at hc; cases hc
      rw [cond_false, hg t (fun hx => ht (nD_sub hx)), sF_off ht]
  have hq := h g
  rw [hmix] at hq
  have hdn := sDnI σ
  rw [hσ] at hdn
  have hsD : ∀ x ∈ sD σ, x ∈ pend.map PI.i := fun x hx => hdn.mem_iff.1 (List.mem_append_left _ hx)
  have hle : (sD σ).length ≤ pend.length := by have := sD_le σ; rw [← hσ, List.length_map]; omega
  have e : ops.length - (done.length + (sD σ).length) = (ops.length - ((done ++ H).length + (sD σ).length)) + H.length := by simp only [List.length_append]; omega
  rw [e]
  refine quiet_go H (done ++ sD σ) g a _ (headB_more hB fun x hx hxH => ?_) hs hq ha (hS _ _ hw) fun fr' a' hK hf => ?_
  · have := List.all_eq_true.1 hd x (hsD x hx)
    have h2 : H.contains x = true := List.elem_eq_true_of_mem hxH
    rw [h2] at this; cases this
  · obtain ⟨f'', h5, h6⟩ := hK
    have := h6 σ hσ w hw fr' (fun t ht => ?_) a' hf
    · rw [lst_perm (l' := done ++ sD σ ++ H)] at this
      · exact this
      · rw [List.append_assoc, List.append_assoc]
        exact List.perm_append_comm.append_left done
    · rw [h5 t]
      cases hc : (pend.map PI.d).contains t with
      | true =>
        have ht2 : t ∈ (σ.map Prod.fst).map PI.d := by rw [hσ]; simpa using hc
        rw [cond_true, hg t ht]
        exact sF_in (by rw [hσ]; exact hn2) ht2 ht
      | false =>
        have ht2 : t ∉ (σ.map Prod.fst).map PI.d := by
          rw [hσ]; intro hx; have hx' : (pend.map PI.d).contains t = true := List.elem_eq_true_of_mem hx; rw [hx'] at hc; cases hc
        rw [cond_false, sF_off ht2]

inductive MixR (ds : List Nat) (g : Frm) : Frm → Frm → Prop
  | base (f : Frm) : MixR ds g (mix ds g f) f
  | upd {f' f0 : Frm} {d : Nat} {v : Value} (h : MixR ds g f' f0) (hd : ds.contains d = false) : MixR ds g (Hb.upd f' d v) (Hb.upd f0 d v)
theorem MixR.eq {g f' f0 : Frm} (h : MixR ds g f' f0) : ∀ t, f' t = bif ds.contains t then g t else f0 t := by
  induction h with
  | base f => exact fun t => rfl
  | @upd f' f0 d v h hd ih =>
    intro t
    by_cases e : t = d
    · subst e; rw [hd, cond_false, upd_same, upd_same]
    · rw [upd_ne _ _ _ _ e, ih t, upd_ne _ _ _ _ e]
inductive Tl (A : List Asrt) : List Asrt → List Asrt → Prop
  | nil : Tl A A []
  | cons {x : Asrt} {l l' : List Asrt} (h : Tl A l l') : Tl A (x :: l) (x :: l')
theorem Tl.eq {A l l' : List Asrt} (h : Tl A l l') : l = l' ++ A := by
  induction h with
  | nil => rfl
  | cons h ih => rw [ih]; rfl
theorem pq_done {g f' f0 : Frm} (hm : MixR ds g f' f0) (h : DP P n ops Q pend done S f0 w0 F L) : pq P n ops Q pend done S w0 F L ds g f' := ⟨_, hm.eq, h⟩
theorem At.pdone {g f' f0 : Frm} {A LA L' : List Asrt} (h2 : pend.map PI.d = ds) (hm : MixR ds g f' f0) (hL : Tl A LA L') (hS : ∀ A w, St w0 F (L' ++ A) w → S w)
    (h : DP P n ops Q pend done S f0 w0 F L') : At (pnext P n ops Q pend done S w0 F g A) .normal f' (St w0 F LA) := by
  subst h2
  intro w hw
  exact ⟨rfl, L', _, hm.eq, by rw [← hL.eq]; exact hw, hS, h⟩

theorem upd_updL {h : Frm} {vs : List (Nat × Value)} (hh : Has h vs) : updL h vs = h := updL_has hh fun _ _ => rfl
def PI.lr (i d : Nat) (vs : List (Nat × Value)) (val : Nat → Value) (A : Nat → List Asrt) {o : Oper} (hi : ops[i]? = some o) (ex : ∀ b, ∀ x ∈ A b, x.excl = true)
    (h : ∀ h w, LR false P n ops [o] (only fun f' w' => ∃ b, f' = upd (updL h vs) d (val b) ∧ St w NoF (A b) w') (updL h vs) (St w NoF [])) : PI P n ops where
  i := i
  d := d
  vs := vs
  C := fun _ => True
  val := val
  A := A
  ok := fun Q fr w a K hh _ ha hk => by
    have := h fr w
    rw [upd_updL hh] at this
    exact wpOp_of_LR hi ha (St.refl w NoF) this fun a' f' w' hf' ⟨b, e, hs⟩ => hk b w' a' hs (by rw [← e]; exact hf')
  ex := ex
theorem At.made {d b : Nat} {h : Frm} {val : Nat → Value} {A : Nat → List Asrt} {w : World} {f' : Frm} (hf : f' = upd h d (val b)) : At (only fun f' w' => ∃ b, f' = upd h d (val b) ∧ St w NoF (A b) w') .normal f' (St w NoF (A b)) := fun _ hw => ⟨rfl, b, hf, hw⟩
def PI.call (i d : Nat) (vs : List (Nat × Value)) (C : World → Prop) (v : Value) {g : FuncId} {xs : List Operand} {args : List Value} {ts : Array TypeId} {T : TypeId} {pp : String} {af : Array Edge} [own : Own P g]
    (hi : ops[i]? = some ⟨some d, .call ⟨.value (.func g), xs.toArray, ts⟩, T, pp, af, none⟩) (hd : Nat.blt d n = true) (hx : ∀ h, xs.map (updL h vs).ev = args)
    (h : ∀ w, C w → CallsTo P g args w fun u w' => u = v ∧ Grew w w') : PI P n ops where
  i := i
  d := d
  vs := vs
  C := C
  val := fun _ => v
  A := fun _ => []
  ok := fun Q fr w a K hh hC ha hk => by
    refine wpOp_of_LR (C := fun u => u = w) hi ha rfl (R := fun f' w' => f' = upd fr d v ∧ Grew w w') (LR.call hd fun w1 e => ?_) fun a' f' w' hf' ⟨e, hs⟩ => hk 0 w' a' hs (by rw [← e]; exact hf')
    subst e
    have hx' := hx fr
    rw [upd_updL hh] at hx'
    rw [hx']
    refine (h w1 hC).mono ?_
    rintro u w' ⟨rfl, hg⟩
    refine LW.sub (D := fun u => u = w') ?_ (fun _ e => e)
    exact LR.nil (m := false) fun w2 e => by subst e; exact ⟨rfl, rfl, hg⟩
  ex := fun _ x hx => by cases hx
theorem CW.reg_held1 {id : Nat} {x : Asrt} {L : List Asrt} [hm : Mixed P] (h : DW P n ops Q [] (St w0 F L) f (St w0 F (x :: L))) : CW P n (.region id ops.toArray true) Q f (St w0 F (x :: L)) := CW.reg_held _ h
theorem CW.reg_held3 {id : Nat} {x y z : Asrt} {L : List Asrt} [hm : Mixed P] (h : DW P n ops Q [] (St w0 F (x :: y :: L)) f (St w0 F (x :: y :: z :: L))) : CW P n (.region id ops.toArray true) Q f (St w0 F (x :: y :: z :: L)) := CW.reg_held _ h
theorem St.pair {w : World} {x y : Asrt} {R : List Asrt} (h : St w0 F (x :: y :: R) w) : St w0 F [x, y] w := h.sub (((List.nil_sublist R).cons_cons y).cons_cons x)
theorem St.nilsl {w : World} {L : List Asrt} (E sz : Nat) (h : St w0 F L w) : St w0 F (osl (.slice none 0 0) E sz 0 [] :: L) w := h.newSl ⟨Grew.refl _, World.ownsRow_nil _ _ _ _⟩
theorem St.two {w w' : World} {L L' R : List Asrt} {a a' b : Asrt} (h : St w0 F L w) (st : St w a.foot (a' :: b :: R) w') (he : a.excl = true) (he' : a'.excl = true) (hb : b.excl = true) (hs : Sel L a a' L') : St w0 F (b :: L') w' := h.did1 hs he he' hb st
theorem St.one' {w w' : World} {L L' : List Asrt} {a a' : Asrt} (h : St w0 F L w) (st : Step a a' w w') (he : a.excl = true) (hd : a'.dep) (hs : Sel L a a' L') : St w0 F L' w' := h.did hs he st hd
end
end Go.Hb
