/-
  A check of bytes: by bits, by a table; what one turned bit does to it. Conditions: none; nothing here speaks of one program.
-/
import Derived.Test.YtkolmkdbjagfcaaGreatRENM1
import Derived.OpenShut

set_option linter.unusedSimpArgs false
set_option linter.unusedVariables false
namespace Go.Proofs.YtkolmkdbjagfcaaGreat
open Go.Hb
attribute [local irreducible] LR CW At Ev thn blk finK noG again CallsTo
set_option maxRecDepth 100000

def decF : Nat → Nat → Nat → List Int → Nat × Nat × Int
  | 0, _, _, _ => (0, 0, 4)
  | _ + 1, _, _, [] => (0, 0, 3)
  | k + 1, i, acc, x :: r =>
    if x < 128 then (if (0 < i ∧ x = 0) ∨ 9007199254740991 < acc + x.toNat % 128 * 128 ^ i then (0, 0, 4) else (acc + x.toNat % 128 * 128 ^ i, i + 1, 0))
    else decF k (i + 1) (acc + x.toNat % 128 * 128 ^ i) r
def dec (l : List Int) : Nat × Nat × Int := decF 8 0 0 l
def Byt (l : List Int) : Prop := ∀ b ∈ l, 0 ≤ b ∧ b < 256
def tup3 (r : Nat × Nat × Int) : Value := .tuple [.int .i64 (r.1 : Int), .int .i64 (r.2.1 : Int), .int .i64 r.2.2].toArray

theorem decF_bound : ∀ k i acc l, (decF k i acc l).2.1 ≤ i + k ∧ ((decF k i acc l).2.2 = 0 → (decF k i acc l).2.1 ≤ i + l.length ∧ (decF k i acc l).1 ≤ 9007199254740991)
  | 0, i, acc, l => by simp [decF]
  | k + 1, i, acc, [] => by simp [decF]
  | k + 1, i, acc, x :: r => by
    unfold decF
    split
    · split
      · simp
      · rename_i h; simp only [not_or] at h; simp; omega
    · have := decF_bound k (i + 1) (acc + x.toNat % 128 * 128 ^ i) r
      simp only [List.length_cons]; omega

def rrP (T : Nat) (ex : List Value) (br : Nat) (a : Option Addr) (c : Nat) (l : List Int) : World → Prop := fun w =>
  w.heap[br]? = some (.cells (.slice a l.length c :: ex).toArray T (0, 0)) ∧ Rd w a (bv l) ∧ l.length ≤ c ∧ (a = none → c = 0) ∧ (∀ k, rdFoot a (bv l) k → k ≠ br)
def rrF (br : Nat) (a : Option Addr) (l : List Int) : Nat → Prop := fun k => k = br ∨ rdFoot a (bv l) k
def rrA (T : Nat) (ex : List Value) (br : Nat) (a : Option Addr) (c : Nat) (l : List Int) : Asrt := .ex (rrF br a l) (rrP T ex br a c l)
def rr1 (T : Nat) (ex : List Value) (br : Nat) (a : Option Addr) (c : Nat) (l : List Int) : Asrt := .own br (.cells (.slice a l.length c :: ex).toArray T (0, 0))
def rr2 (a : Option Addr) (l : List Int) : Asrt := .ex (rdFoot a (bv l)) (fun w => Rd w a (bv l))
theorem rr2_dep (a : Option Addr) (l : List Int) : (rr2 a l).dep := Rd.dep a (bv l)
theorem rrA_dep (T : Nat) (ex : List Value) (br : Nat) (a : Option Addr) (c : Nat) (l : List Int) : (rrA T ex br a c l).dep := by
  intro w w' hk ⟨h1, h2, h3⟩
  exact ⟨by rw [hk br (.inl rfl)]; exact h1, Rd.dep a (bv l) w w' (fun k hk2 => hk k (.inr hk2)) h2, h3⟩
theorem rr_live {T : Nat} {ex : List Value} {w : World} {br : Nat} {a : Option Addr} {c : Nat} {l : List Int} (h : rrP T ex br a c l w) : ∀ k, rrF br a l k → k < w.heap.size := by
  rintro k (rfl | hk)
  · exact (Array.getElem?_eq_some_iff.1 h.1).1
  · exact h.2.1.live k hk
theorem rr_open {T : Nat} {ex : List Value} {w0 w : World} {F : Nat → Prop} {R : List Asrt} {br : Nat} {a : Option Addr} {c : Nat} {l : List Int} (h : St w0 F (rrA T ex br a c l :: R) w) : St w0 F (rr1 T ex br a c l :: rr2 a l :: R) w := by
  have hh : rrP T ex br a c l w := h.holds _ (List.Mem.head _)
  refine h.split rfl hh.1 hh.2.1 (fun k hk => .inl hk) (fun k hk => .inr hk) (fun k hk hk2 => ?_) (Asrt.dep_own _ _) (rr2_dep _ _)
  exact hh.2.2.2.2 k hk2 hk
theorem rr_shut {T : Nat} {ex : List Value} {w0 w : World} {F : Nat → Prop} {R : List Asrt} {br : Nat} {a : Option Addr} {c : Nat} {l : List Int} (h : St w0 F (rr1 T ex br a c l :: rr2 a l :: R) w) (hc : l.length ≤ c) (hz : a = none → c = 0) : St w0 F (rrA T ex br a c l :: R) w := by
  refine h.merge rfl rfl ⟨h.holds _ (List.Mem.head _), h.holds _ (List.Mem.tail _ (List.Mem.head _)), hc, hz, fun k hk hb => ?_⟩ (fun k hk => hk) (rrA_dep _ _ _ _ _ _)
  obtain ⟨d1, _⟩ := List.pairwise_cons.1 h.dis
  exact d1 (rr2 a l) (by simp) rfl k hb hk
theorem rr_start {T : Nat} {ex : List Value} {w : World} {br : Nat} {a : Option Addr} {c : Nat} {l : List Int} (h : rrP T ex br a c l w) : St w (rrF br a l) [rr1 T ex br a c l, rr2 a l] w :=
  rr_open (St.one (a := rrA T ex br a c l) h (rr_live h) (rrA_dep _ _ _ _ _ _))
theorem rr_end {T : Nat} {ex : List Value} {w w' : World} {R : List Asrt} {br : Nat} {a a' : Option Addr} {c c' : Nat} {l l' : List Int} (h : St w (rrF br a l) (rr1 T ex br a' c' l' :: rr2 a' l' :: R) w') (hc : l'.length ≤ c') (hz : a' = none → c' = 0) : Step (rrA T ex br a c l) (rrA T ex br a' c' l') w w' :=
  St.step (R := R) (rr_shut h hc hz) rfl
theorem rr_drop {w0 w : World} {F : Nat → Prop} {R : List Asrt} {x : Asrt} {a : Option Addr} {c n : Nat} {l : List Int} (h : St w0 F (x :: rr2 a l :: R) w) (hc : l.length ≤ c) : St w0 F (x :: rr2 (subA a c n 1) (l.drop n) :: R) w := by
  have hr : Rd w a (bv l) := h.holds _ (List.Mem.tail _ (List.Mem.head _))
  have hd : Rd w (subA a c n 1) (bv (l.drop n)) := by
    have := hr.drop (l := n) (sz := 1) (c := c) (fun e => by simp; omega)
    simpa using this
  have hs : Sel (x :: rr2 a l :: R) (rr2 a l) (rr2 (subA a c n 1) (l.drop n)) (x :: rr2 (subA a c n 1) (l.drop n) :: R) := Sel.tail _ (Sel.head _ _ _)
  refine h.turn hs rfl (St.refl w _) hd (fun k hk => .inl ?_) (rr2_dep _ _)
  obtain ⟨hne, ad, ha, rfl⟩ := hk
  refine ⟨fun e => hne (by rw [bv_drop, e]; simp), ?_⟩
  unfold subA at ha
  split at ha
  · exact ⟨ad, ha, rfl⟩
  · cases a with
    | none => cases ha
    | some a0 => simp only [Option.map_some, Option.some.injEq] at ha; subst ha; exact ⟨a0, rfl, addr_add_block _ _⟩
theorem subA_none {a : Option Addr} {c n : Nat} (hz : a = none → c = 0) : subA a c n 1 = none → c - n = 0 := by
  unfold subA
  intro h
  split at h
  · omega
  · cases a with
    | none => rw [hz rfl]; omega
    | some a0 => cases h
theorem rr_rd {T : Nat} {ex : List Value} {w : World} {br : Nat} {a : Option Addr} {c : Nat} {l : List Int} (h : rrP T ex br a c l w) : St w NoF [rdA (some ⟨br, 0, none⟩) (.slice a l.length c :: ex), rdA a (bv l)] w :=
  St.rd2 (fun j u hj => ⟨_, rfl, by rw [addr_add, cell_own h.1]; simpa using hj⟩) h.2.1

theorem andNot128 : ∀ a : Nat, a < 256 → andNotI .u8 (a : Int) 128 = ((a % 128 : Nat) : Int) := by decide +kernel
theorem or_add {a b k : Nat} (ha : a < 2 ^ k) (hs : a + b * 2 ^ k < 18446744073709551616) : orI .u64 (a : Int) ((b * 2 ^ k : Nat) : Int) = ((a + b * 2 ^ k : Nat) : Int) := by
  unfold orI
  have e1 : (BitVec.ofInt IntKind.u64.bits (a : Int)) = BitVec.ofNat 64 a := rfl
  have e2 : (BitVec.ofInt IntKind.u64.bits ((b * 2 ^ k : Nat) : Int)) = BitVec.ofNat 64 (b * 2 ^ k) := rfl
  rw [e1, e2]
  have e3 : (BitVec.ofNat 64 a ||| BitVec.ofNat 64 (b * 2 ^ k)).toNat = a + b * 2 ^ k := by
    rw [BitVec.toNat_or, BitVec.toNat_ofNat, BitVec.toNat_ofNat, Nat.mod_eq_of_lt (by omega), Nat.mod_eq_of_lt (by omega)]
    rw [Nat.or_comm, Nat.mul_comm, ← Nat.two_pow_add_eq_or_of_lt ha, Nat.add_comm]
  show IntKind.u64.wrap (((BitVec.ofNat 64 a ||| BitVec.ofNat 64 (b * 2 ^ k)).toNat : Nat) : Int) = _
  rw [e3, wrap_u64 (by omega) (by omega)]
theorem pow128 (i : Nat) : 128 ^ i = 2 ^ (7 * i) := by rw [Nat.pow_mul]
theorem pow128_le {i : Nat} (h : i ≤ 8) : 128 ^ i ≤ 72057594037927936 := by
  have : 128 ^ i ≤ 128 ^ 8 := Nat.pow_le_pow_right (by omega) h
  have e : (128 : Nat) ^ 8 = 72057594037927936 := by decide
  omega

theorem c100 (br : Nat) (a : Option Addr) (c : Nat) (l : List Int) (w : World) (h : rrP 142 [.bool true] br a c l w) (hb : Byt l) (hm : l.length ≤ 281474976710656) :
    CallsTo Tryz.prog 119 [.pointer (some ⟨br, 0, none⟩)] w fun v w' => v = tup3 (dec l) ∧ Grew w w' := by
  refine go_in (n := 58) (rr_rd h) Tryz.func119 rfl rfl ?_
  repeat'(first|refine kv' ?_|apply jJ|refine jE' ?_|refine jp' ?_|(apply jc;kernel_rfl)|refine kg' ?_|refine kG' ?_|refine kB' fun _=>?_|refine kA' fun _=>?_|refine kK' fun _=>?_|refine kU' ?_|((first|refine kR' ?_ ?_|refine kQ' ?_ ?_);all_goals(intro hc;try simp only[hcs]at hc;try(exfalso;first|contradiction|omega))))
  apply CW.loop [2, 3, 4, 5, 6, 7, 8, 9, 10, 11, 12, 13, 14, 15, 16, 17, 18, 19, 20, 21, 22, 23, 24, 25, 26, 27, 28, 29, 30, 31, 32, 33, 34, 35, 36, 37] (fun s : Nat × Nat => s.1 ≤ l.length ∧ s.1 ≤ 7 ∧ s.2 < 128 ^ s.1 ∧ dec l = decF (8 - s.1) s.1 s.2 (l.drop s.1))
    (fun s => [(5, Value.int .u64 (s.2 : Int)), (6, Value.int .i64 (s.1 : Int))]) (fun s => St w NoF [rdA (some ⟨br, 0, none⟩) [.slice a l.length c, .bool true], rdA a (bv l)]) (fun s => 8 - s.1)
  · exact fun w' hw' => ⟨(0, 0), ⟨by simp, by simp, by simp, rfl⟩, ⟨rfl, rfl, trivial⟩, hw'⟩
  rintro ⟨i, acc⟩ g ⟨hi, hi7, hacc, hd⟩
  simp only at hi hi7 hacc hd ⊢
  by_cases hlt : i < l.length
  · obtain ⟨ba, oa, rfl⟩ := h.2.1.form (fun e => by have := congrArg List.length e; simp at this; subst this; simp at hlt)
    have hne : ¬ ((i : Int) = (l.length : Int)) := by omega
    obtain ⟨hx0, hx1⟩ := hb _ (List.getElem_mem hlt)
    obtain ⟨x, hx⟩ : ∃ x : Nat, l[i] = (x : Int) := ⟨l[i].toNat, by omega⟩
    have hp := pow128_le (i := i) (by omega)
    have hab : acc < 72057594037927936 := by omega
    have hxm : x % 128 * 128 ^ i ≤ 127 * 72057594037927936 := Nat.mul_le_mul (by omega) hp
    have hval : orI .u64 (acc : Int) (IntKind.u64.wrap (IntKind.u64.wrap (andNotI .u8 l[i] 128) * 2 ^ (min (7 * (i : Int)).toNat IntKind.u64.bits))) = ((acc + x % 128 * 128 ^ i : Nat) : Int) := by
      rw [hx, andNot128 x (by omega), wrap_u64 (x := ((x % 128 : Nat) : Int)) (by omega) (by omega)]
      have e : min (7 * (i : Int)).toNat IntKind.u64.bits = 7 * i := by
        have : IntKind.u64.bits = 64 := rfl
        omega
      rw [e]
      have e2 : ((x % 128 : Nat) : Int) * 2 ^ (7 * i) = ((x % 128 * 2 ^ (7 * i) : Nat) : Int) := by simp
      rw [pow128] at hacc hxm ⊢
      rw [e2, wrap_u64 (by omega) (by omega), or_add hacc (by omega)]
    have hn : acc + x % 128 * 128 ^ i < 128 ^ (i + 1) := by
      have : x % 128 * 128 ^ i ≤ 127 * 128 ^ i := Nat.mul_le_mul_right _ (by omega)
      rw [Nat.pow_succ]; omega
    have hstep : dec l = if l[i] < 128 then (if (0 < i ∧ l[i] = 0) ∨ 9007199254740991 < acc + x % 128 * 128 ^ i then (0, 0, 4) else (acc + x % 128 * 128 ^ i, i + 1, 0)) else decF (7 - i) (i + 1) (acc + x % 128 * 128 ^ i) (l.drop (i + 1)) := by
      rw [hd, List.drop_eq_getElem_cons hlt, show 8 - i = (7 - i) + 1 by omega]
      have : l[i].toNat = x := by omega
      simp only [decF, this]
    generalize acc + x % 128 * 128 ^ i = nacc at hval hn hstep
    have hnb : nacc < 9223372036854775808 := by
      have : 128 ^ (i + 1) ≤ 72057594037927936 := pow128_le (by omega)
      omega
    repeat'(first|refine kv' ?_|apply jJ|refine jE' ?_|refine jp' ?_|(apply jc;kernel_rfl)|refine kg' ?_|refine kG' ?_|refine kB' fun _=>?_|refine kA' fun _=>?_|refine kK' fun _=>?_|refine kU' ?_|(apply LR.ev; (· apply Ev.load_rd; (· exact rfl); (· repeat (first | exact mH _ _ | apply mT)); (· first | exact rfl | exact bv_at (i := i) (by omega) (by omega))); (· exact rfl))|(apply idxX;(iterate 2 exact rfl);(iterate 2(first|omega|(dsimp only;omega)));exact rfl)|(apply addX;(iterate 2 exact rfl);(iterate 2(first|omega|(dsimp only;omega)));exact rfl)|(apply mulX;(iterate 2 exact rfl);(iterate 2(first|omega|(dsimp only;omega)));exact rfl)|(apply subX;(iterate 2 exact rfl);(iterate 2(first|omega|(dsimp only;omega)));exact rfl)|((first|refine kR' ?_ ?_|refine kQ' ?_ ?_);all_goals(intro hc;try simp only[hcs]at hc;try(exfalso;first|contradiction|omega))))
    all_goals try simp only [hval] at hc
    any_goals (
      apply At.again (i + 1, nacc) ⟨by show i + 1 ≤ l.length; omega, by show i + 1 ≤ 7; omega, hn, by show dec l = decF (8 - (i + 1)) (i + 1) nacc (l.drop (i + 1)); rw [hstep, if_neg (by omega)]; congr 1; omega⟩
      · (repeat (first | exact Out.refl _ _ | exact Out.mix | (apply Out.upd; (· exact rfl)) | (apply Out.updL; (· exact rfl)) | (apply Out.mixs; (· exact rfl))))
      · refine ⟨congrArg (Value.int .u64) hval, rfl, trivial⟩
      · exact fun w' hw' => hw'
      · show 8 - (i + 1) < 8 - i; omega)
    all_goals (
      (apply ret3; (· exact rfl); intro w' hS)
      refine ⟨?_, hS.toKeep⟩
      rw [hstep]
      first
      | (rw [if_pos (by assumption), if_pos (by omega)]; rfl)
      | (rw [if_pos (by assumption), if_neg (by omega)]
         show Value.tuple #[.int .i64 (IntKind.i64.wrap (orI _ _ _)), _, _] = _
         rw [hval, wrap_i64 (by omega) (by omega)]; rfl)
      | (rw [if_neg (by omega)]
         obtain rfl : i = 7 := by omega
         rfl)
      | (clear hS; omega))
  · have hne : ((i : Int) = (l.length : Int)) := by omega
    have hd2 : dec l = (0, 0, 3) := by
      rw [hd, List.drop_eq_nil_of_le (by omega)]
      obtain ⟨q, hq⟩ : ∃ q, 8 - i = q + 1 := ⟨7 - i, by omega⟩
      rw [hq]; rfl
    repeat'(first|refine kv' ?_|apply jJ|refine jE' ?_|refine jp' ?_|(apply jc;kernel_rfl)|refine kg' ?_|refine kG' ?_|refine kB' fun _=>?_|refine kA' fun _=>?_|refine kK' fun _=>?_|refine kU' ?_|(apply LR.ev; (· apply Ev.load_rd; (· exact rfl); (· repeat (first | exact mH _ _ | apply mT)); (· exact rfl)); (· exact rfl))|((first|refine kR' ?_ ?_|refine kQ' ?_ ?_);all_goals(intro hc;try simp only[hcs]at hc;try(exfalso;first|contradiction|omega))))
    (apply ret3; (· exact rfl); intro w' hS)
    exact ⟨by rw [hd2]; rfl, hS.toKeep⟩
end Go.Proofs.YtkolmkdbjagfcaaGreat

namespace Go.Proofs.YtkolmkdbjagfcaaGreat
open Go.Hb
attribute [local irreducible] LR CW At Ev thn blk finK noG again CallsTo
set_option maxRecDepth 100000

theorem c101 (br : Nat) (a : Option Addr) (c : Nat) (l : List Int) (w : World) (h : rrP 143 [] br a c l w) (hb : Byt l) (hm : l.length ≤ 281474976710656) :
    CallsTo Tryz.prog 118 [.pointer (some ⟨br, 0, none⟩)] w fun v w' => v = tup3 (dec l) ∧ Grew w w' := by
  refine go_in (n := 66) (rr_rd h) Tryz.func118 rfl rfl ?_
  repeat'(first|refine kv' ?_|apply jJ|refine jE' ?_|refine jp' ?_|(apply jc;kernel_rfl)|refine kg' ?_|refine kG' ?_|refine kB' fun _=>?_|refine kA' fun _=>?_|refine kK' fun _=>?_|refine kU' ?_|((first|refine kR' ?_ ?_|refine kQ' ?_ ?_);all_goals(intro hc;try simp only[hcs]at hc;try(exfalso;first|contradiction|omega))))
  apply CW.loop [2, 3, 4, 5, 6, 7, 8, 9, 10, 11, 12, 13, 14, 15, 16, 17, 18, 19, 20, 21, 22, 23, 24, 25, 26, 27, 28, 29, 30, 31, 32, 33, 34, 35, 36, 37, 38, 39, 40, 41, 42, 43, 44, 45, 46, 47, 48, 49, 50, 51, 52, 53, 54, 55, 56, 57, 58, 59, 60, 61, 62, 63, 64, 65] (fun s : Nat × Nat => s.1 ≤ l.length ∧ s.1 ≤ 8 ∧ s.2 < 128 ^ s.1 ∧ dec l = decF (8 - s.1) s.1 s.2 (l.drop s.1))
    (fun s => [(5, Value.int .i64 (s.2 : Int)), (6, Value.int .i64 (s.1 : Int))]) (fun s => St w NoF [rdA (some ⟨br, 0, none⟩) [.slice a l.length c], rdA a (bv l)]) (fun s => 8 - s.1)
  · exact fun w' hw' => ⟨(0, 0), ⟨by simp, by simp, by simp, rfl⟩, ⟨rfl, rfl, trivial⟩, hw'⟩
  rintro ⟨i, acc⟩ g ⟨hi, hi7, hacc, hd⟩
  simp only at hi hi7 hacc hd ⊢
  by_cases h8 : i = 8
  · subst h8
    repeat'(first|refine kv' ?_|apply jJ|refine jE' ?_|refine jp' ?_|(apply jc;kernel_rfl)|refine kg' ?_|refine kG' ?_|refine kB' fun _=>?_|refine kA' fun _=>?_|refine kK' fun _=>?_|refine kU' ?_|((first|refine kR' ?_ ?_|refine kQ' ?_ ?_);all_goals(intro hc;try simp only[hcs]at hc;try(exfalso;first|contradiction|omega))))
    (apply ret3; (· exact rfl); intro w' hS)
    exact ⟨by rw [hd]; rfl, hS.toKeep⟩
  by_cases hlt : i < l.length
  · obtain ⟨ba, oa, rfl⟩ := h.2.1.form (fun e => by have := congrArg List.length e; simp at this; subst this; simp at hlt)
    obtain ⟨hx0, hx1⟩ := hb _ (List.getElem_mem hlt)
    obtain ⟨x, hx⟩ : ∃ x : Nat, l[i] = (x : Int) := ⟨l[i].toNat, by omega⟩
    have hp := pow128_le (i := i) (by omega)
    have hab : acc < 72057594037927936 := by omega
    have hn : acc + x % 128 * 128 ^ i < 128 ^ (i + 1) := by
      have : x % 128 * 128 ^ i ≤ 127 * 128 ^ i := Nat.mul_le_mul_right _ (by omega)
      rw [Nat.pow_succ]; omega
    have hstep : dec l = if l[i] < 128 then (if (0 < i ∧ l[i] = 0) ∨ 9007199254740991 < acc + x % 128 * 128 ^ i then (0, 0, 4) else (acc + x % 128 * 128 ^ i, i + 1, 0)) else decF (7 - i) (i + 1) (acc + x % 128 * 128 ^ i) (l.drop (i + 1)) := by
      rw [hd, List.drop_eq_getElem_cons hlt, show 8 - i = (7 - i) + 1 by omega]
      have : l[i].toNat = x := by omega
      simp only [decF, this]
    have hmod : ((x : Int)).tmod 128 = ((x % 128 : Nat) : Int) := by rw [Int.tmod_eq_emod_of_nonneg (by omega)]; omega
    have hw64 : IntKind.i64.wrap l[i] = (x : Int) := by rw [hx, wrap_i64 (by omega) (by omega)]
    repeat'(first|refine kv' ?_|apply jJ|refine jE' ?_|refine jp' ?_|(apply jc;kernel_rfl)|refine kg' ?_|refine kG' ?_|refine kB' fun _=>?_|refine kA' fun _=>?_|refine kK' fun _=>?_|refine kU' ?_|(apply LR.ev; (· apply Ev.load_rd; (· exact rfl); (· repeat (first | exact mH _ _ | apply mT)); (· first | exact rfl | exact bv_at (i := i) (by omega) (by omega))); (· exact rfl))|(apply idxX;(iterate 2 exact rfl);(iterate 2(first|omega|(dsimp only;omega)));exact rfl)|(apply LR.ev; (· apply Ev.rem; (· exact rfl); (· exact rfl); (· first | decide | omega)); (· exact rfl))|((first|refine kR' ?_ ?_|refine kQ' ?_ ?_);all_goals(intro hc;try simp only[hcs]at hc;try(exfalso;first|contradiction|omega))))
    rw [hw64, hmod]
    apply CW.loop [7, 8, 29, 30, 31, 32, 33, 34, 35] (fun j : Nat => j ≤ i) (fun j => [(7, Value.int .i64 ((x % 128 * 128 ^ j : Nat) : Int)), (8, Value.int .i64 (j : Int))])
      (fun j => St w NoF [rdA (some ⟨br, 0, none⟩) [.slice (some ⟨ba, oa, none⟩) l.length c], rdA (some ⟨ba, oa, none⟩) (bv l)]) (fun j => i - j)
    · exact fun w' hw' => ⟨0, by omega, ⟨by simp; rfl, rfl, trivial⟩, hw'⟩
    intro j g2 hj
    have hpj : x % 128 * 128 ^ j ≤ 127 * 72057594037927936 := Nat.mul_le_mul (by omega) (pow128_le (by omega))
    by_cases hji : j < i
    · have hpj2 : x % 128 * 128 ^ (j + 1) ≤ 127 * 72057594037927936 := Nat.mul_le_mul (by omega) (pow128_le (by omega))
      have he : x % 128 * 128 ^ (j + 1) = x % 128 * 128 ^ j * 128 := by rw [Nat.pow_succ, Nat.mul_assoc]
      generalize x % 128 * 128 ^ (j + 1) = p2 at he hpj2
      repeat'(first|refine kv' ?_|apply jJ|refine jE' ?_|refine jp' ?_|(apply jc;kernel_rfl)|refine kg' ?_|refine kG' ?_|refine kB' fun _=>?_|refine kA' fun _=>?_|refine kK' fun _=>?_|refine kU' ?_|(apply mulX;(iterate 2 exact rfl);(iterate 2(first|omega|(dsimp only;omega)));exact rfl)|(apply addX;(iterate 2 exact rfl);(iterate 2(first|omega|(dsimp only;omega)));exact rfl)|((first|refine kR' ?_ ?_|refine kQ' ?_ ?_);all_goals(intro hc;try simp only[hcs]at hc;try(exfalso;first|contradiction|omega))))
      apply At.again (j + 1) (by omega)
      · (repeat (first | exact Out.refl _ _ | exact Out.mix | (apply Out.upd; (· exact rfl)) | (apply Out.updL; (· exact rfl)) | (apply Out.mixs; (· exact rfl))))
      · refine ⟨?_, rfl, trivial⟩
        show Value.int .i64 (((x % 128 * 128 ^ j : Nat) : Int) * 128) = _
        rw [Nat.pow_succ, ← Nat.mul_assoc]; simp
      · exact fun w' hw' => hw'
      · omega
    · obtain rfl : j = i := by omega
      generalize x % 128 * 128 ^ j = p at hn hstep hpj ⊢
      have hnb : acc + p < 9223372036854775808 := by
        have : 128 ^ (j + 1) ≤ 72057594037927936 := pow128_le (by omega)
        omega
      repeat'(first|refine kv' ?_|apply jJ|refine jE' ?_|refine jp' ?_|(apply jc;kernel_rfl)|refine kg' ?_|refine kG' ?_|refine kB' fun _=>?_|refine kA' fun _=>?_|refine kK' fun _=>?_|refine kU' ?_|(apply LR.ev; (· apply Ev.load_rd; (· exact rfl); (· repeat (first | exact mH _ _ | apply mT)); (· first | exact rfl | exact bv_at (i := j) (by omega) (by omega))); (· exact rfl))|(apply idxX;(iterate 2 exact rfl);(iterate 2(first|omega|(dsimp only;omega)));exact rfl)|(apply addX;(iterate 2 exact rfl);(iterate 2(first|omega|(dsimp only;omega)));exact rfl)|((first|refine kR' ?_ ?_|refine kQ' ?_ ?_);all_goals(intro hc;try simp only[hcs]at hc;try(exfalso;first|contradiction|omega))))
      any_goals (
        apply At.again (j + 1, acc + p) ⟨by show j + 1 ≤ l.length; omega, by show j + 1 ≤ 8; omega, hn, by show dec l = decF (8 - (j + 1)) (j + 1) (acc + p) (l.drop (j + 1)); rw [hstep, if_neg (by omega)]; congr 1; omega⟩
        · (repeat (first | exact Out.refl _ _ | exact Out.mix | (apply Out.upd; (· exact rfl)) | (apply Out.updL; (· exact rfl)) | (apply Out.mixs; (· exact rfl))))
        · exact ⟨rfl, rfl, trivial⟩
        · exact fun w' hw' => hw'
        · show 8 - (j + 1) < 8 - j; omega)
      all_goals (
        (apply ret3; (· exact rfl); intro w' hS)
        refine ⟨?_, hS.toKeep⟩
        rw [hstep]
        first
        | (rw [if_pos (by assumption), if_pos (by omega)]; rfl)
        | (rw [if_pos (by assumption), if_neg (by omega)]; rfl))
  · have hd2 : dec l = (0, 0, 3) := by
      rw [hd, List.drop_eq_nil_of_le (by omega)]
      obtain ⟨q, hq⟩ : ∃ q, 8 - i = q + 1 := ⟨7 - i, by omega⟩
      rw [hq]; rfl
    repeat'(first|refine kv' ?_|apply jJ|refine jE' ?_|refine jp' ?_|(apply jc;kernel_rfl)|refine kg' ?_|refine kG' ?_|refine kB' fun _=>?_|refine kA' fun _=>?_|refine kK' fun _=>?_|refine kU' ?_|(apply LR.ev; (· apply Ev.load_rd; (· exact rfl); (· repeat (first | exact mH _ _ | apply mT)); (· exact rfl)); (· exact rfl))|((first|refine kR' ?_ ?_|refine kQ' ?_ ?_);all_goals(intro hc;try simp only[hcs]at hc;try(exfalso;first|contradiction|omega))))
    (apply ret3; (· exact rfl); intro w' hS)
    exact ⟨by rw [hd2]; rfl, hS.toKeep⟩

theorem c99 (bw : Nat) (v : Value) (w : World) (h : w.heap[bw]? = some (.cells [v, .bool true].toArray 142 (0, 0))) : CallsTo Tryz.prog 99 [.pointer (some ⟨bw, 0, none⟩)] w fun u w' => u = .bool false ∧ Grew w w' := by
  refine go_in (n := 12) (St.rd1 (a := some ⟨bw, 0, none⟩) (xs := [v, .bool true]) (fun j u hj => ⟨_, rfl, by rw [addr_add, cell_own h]; simpa using hj⟩)) Tryz.func99 rfl rfl ?_
  repeat'(first|refine kv' ?_|apply jJ|refine jE' ?_|refine jp' ?_|(apply jc;kernel_rfl)|refine kg' ?_|refine kG' ?_|refine kB' fun _=>?_|refine kA' fun _=>?_|refine kK' fun _=>?_|refine kU' ?_|(apply LR.ev; (· apply Ev.load_rd; (· exact rfl); (· repeat (first | exact mH _ _ | apply mT)); (· exact rfl)); (· exact rfl))|((first|refine kR' ?_ ?_|refine kQ' ?_ ?_);all_goals(intro hc;try simp only[hcs]at hc;try(exfalso;first|contradiction|omega))))
  all_goals (
    (apply ret1; (· exact rfl); intro w' hS)
    exact ⟨rfl, hS.toKeep⟩)

theorem rr_hold {T : Nat} {ex : List Value} {w0 w : World} {F : Nat → Prop} {R : List Asrt} {br : Nat} {a : Option Addr} {c : Nat} {l : List Int} (h : St w0 F (rr1 T ex br a c l :: rr2 a l :: R) w) (hc : l.length ≤ c) (hz : a = none → c = 0) : rrP T ex br a c l w :=
  (rr_shut h hc hz).holds _ (List.Mem.head _)
theorem c68 (br : Nat) (a : Option Addr) (c : Nat) (l : List Int) (w : World) (h : rrP 142 [.bool true] br a c l w) : CallsTo Tryz.prog 59 [.pointer (some ⟨br, 0, none⟩)] w fun v w' => v = .int .i64 (l.length : Int) ∧ Grew w w' := by
  refine go_in (n := 10) (rr_rd h) Tryz.func59 rfl rfl ?_
  repeat'(first|refine kv' ?_|apply jJ|refine jE' ?_|refine jp' ?_|(apply jc;kernel_rfl)|refine kg' ?_|refine kG' ?_|refine kB' fun _=>?_|refine kA' fun _=>?_|refine kK' fun _=>?_|refine kU' ?_|(apply LR.ev; (· apply Ev.load_rd; (· exact rfl); (· repeat (first | exact mH _ _ | apply mT)); (· exact rfl)); (· exact rfl))|(apply LR.qcall; (· exact rfl); (· intro w1 h1; exact CallsTo.q (c99 br (.slice a l.length c) w1 (by have := (h1.toKeep.keep br (rr_live h br (.inl rfl)) (fun x => x)); rw [this]; exact h.1)) h1))|((first|refine kR' ?_ ?_|refine kQ' ?_ ?_);all_goals(intro hc;try simp only[hcs]at hc;try(exfalso;first|contradiction|omega))))
  (apply ret1; (· exact rfl); intro w' hS)
  exact ⟨rfl, hS.toKeep⟩
theorem c72 (br : Nat) (a : Option Addr) (c : Nat) (l : List Int) (w : World) (h : rrP 143 [] br a c l w) : CallsTo Tryz.prog 67 [.pointer (some ⟨br, 0, none⟩)] w fun v w' => v = .int .i64 (l.length : Int) ∧ Grew w w' := by
  refine go_in (n := 8) (rr_rd h) Tryz.func67 rfl rfl ?_
  repeat'(first|refine kv' ?_|apply jJ|refine jE' ?_|refine jp' ?_|(apply jc;kernel_rfl)|refine kg' ?_|refine kG' ?_|refine kB' fun _=>?_|refine kA' fun _=>?_|refine kK' fun _=>?_|refine kU' ?_|(apply LR.ev; (· apply Ev.load_rd; (· exact rfl); (· repeat (first | exact mH _ _ | apply mT)); (· exact rfl)); (· exact rfl))|((first|refine kR' ?_ ?_|refine kQ' ?_ ?_);all_goals(intro hc;try simp only[hcs]at hc;try(exfalso;first|contradiction|omega))))
  (apply ret1; (· exact rfl); intro w' hS)
  exact ⟨rfl, hS.toKeep⟩

theorem dec_le (l : List Int) : (dec l).2.1 ≤ 8 ∧ (dec l).2.1 ≤ l.length := by
  have := decF_bound 8 0 0 l
  unfold dec
  by_cases h : (decF 8 0 0 l).2.2 = 0
  · have := this.2 h; omega
  · have h2 : ∀ k i acc l, (decF k i acc l).2.2 ≠ 0 → (decF k i acc l).2.1 = 0 := by
      intro k
      induction k with
      | zero => intro i acc l _; rfl
      | succ k ih =>
        intro i acc l
        cases l with
        | nil => intro _; rfl
        | cons x r =>
          unfold decF
          split
          · split
            · intro _; rfl
            · intro h; simp at h
          · exact ih _ _ _
    have := h2 _ _ _ _ h; omega

theorem c73 (br : Nat) (a : Option Addr) (c : Nat) (l : List Int) (w : World) (h : rrP 142 [.bool true] br a c l w) (hb : Byt l) (hm : l.length ≤ 281474976710656) :
    CallsTo Tryz.prog 106 [.pointer (some ⟨br, 0, none⟩)] w fun v w' => ∃ a' c', v = .tuple [.int .i64 ((dec l).1 : Int), .int .i64 (dec l).2.2].toArray ∧ Step (rrA 142 [.bool true] br a c l) (rrA 142 [.bool true] br a' c' (l.drop (dec l).2.1)) w w' := by
  have hc := h.2.2.1
  have hz := h.2.2.2.1
  have hn := dec_le l
  refine go_in (n := 26) (rr_start h) Tryz.func106 rfl rfl ?_
  repeat'(first|refine kv' ?_|apply jJ|refine jE' ?_|refine jp' ?_|(apply jc;kernel_rfl)|refine kg' ?_|refine kG' ?_|refine kB' fun _=>?_|refine kA' fun _=>?_|refine kK' fun _=>?_|refine kU' ?_|(apply LR.qcall; (· exact rfl); (· intro w1 h1; first | exact CallsTo.q (c99 br (.slice a l.length c) w1 (h1.own_at (List.Mem.head _))) h1 | exact CallsTo.q (c100 _ _ _ _ w1 (rr_hold h1 hc hz) hb hm) h1))|(apply LR.ev; (· apply Ev.slice_lo; (· exact rfl); (· exact rfl); (· first | omega | (dsimp only; omega)); (· first | omega | (dsimp only; omega))); (· exact rfl))|((first|refine kR' ?_ ?_|refine kQ' ?_ ?_);all_goals(intro hc;try simp only[hcs]at hc;try(exfalso;first|contradiction|omega))))
  (apply ret2; (· exact rfl); intro w' hS)
  refine ⟨subA a c (dec l).2.1 1, c - (dec l).2.1, rfl, rr_end (R := []) ((rr_drop (n := (dec l).2.1) hS hc).cast ?_) (by simp; omega) (subA_none hz)⟩
  simp [rr1, splice]
theorem c70 (br : Nat) (a : Option Addr) (c : Nat) (l : List Int) (w : World) (h : rrP 143 [] br a c l w) (hb : Byt l) (hm : l.length ≤ 281474976710656) :
    CallsTo Tryz.prog 100 [.pointer (some ⟨br, 0, none⟩)] w fun v w' => ∃ a' c', v = .tuple [.int .i64 ((dec l).1 : Int), .int .i64 (dec l).2.2].toArray ∧ Step (rrA 143 [] br a c l) (rrA 143 [] br a' c' (l.drop (dec l).2.1)) w w' := by
  have hc := h.2.2.1
  have hz := h.2.2.2.1
  have hn := dec_le l
  refine go_in (n := 24) (rr_start h) Tryz.func100 rfl rfl ?_
  repeat'(first|refine kv' ?_|apply jJ|refine jE' ?_|refine jp' ?_|(apply jc;kernel_rfl)|refine kg' ?_|refine kG' ?_|refine kB' fun _=>?_|refine kA' fun _=>?_|refine kK' fun _=>?_|refine kU' ?_|(apply LR.qcall; (· exact rfl); (· intro w1 h1; exact CallsTo.q (c101 _ _ _ _ w1 (rr_hold h1 hc hz) hb hm) h1))|(apply LR.ev; (· apply Ev.slice_lo; (· exact rfl); (· exact rfl); (· first | omega | (dsimp only; omega)); (· first | omega | (dsimp only; omega))); (· exact rfl))|((first|refine kR' ?_ ?_|refine kQ' ?_ ?_);all_goals(intro hc;try simp only[hcs]at hc;try(exfalso;first|contradiction|omega))))
  (apply ret2; (· exact rfl); intro w' hS)
  refine ⟨subA a c (dec l).2.1 1, c - (dec l).2.1, rfl, rr_end (R := []) ((rr_drop (n := (dec l).2.1) hS hc).cast ?_) (by simp; omega) (subA_none hz)⟩
  simp [rr1, splice]
end Go.Proofs.YtkolmkdbjagfcaaGreat

namespace Go.Proofs.YtkolmkdbjagfcaaGreat
open Go.Hb
attribute [local irreducible] LR CW At Ev thn blk finK noG again CallsTo
set_option maxRecDepth 100000

theorem newB_rr {w0 w1 : World} {F : Nat → Prop} {L : List Asrt} {a : Option Addr} {c : Nat} {l : List Int} (h : St w0 F L w1) {w2 : World} (hn : NewSl w1 w2 (.slice a l.length c) 5 1 l.length (bv l)) : St w0 F (rr2 a l :: L) w2 := by
  refine h.push hn.grew (ownsRow_rd hn.own) (fun k hk => ?_) (rr2_dep _ _)
  obtain ⟨hne, ad, rfl, rfl⟩ := hk
  exact hn.own.lt _ rfl

theorem osl_rr {w0 w : World} {F : Nat → Prop} {R : List Asrt} {a : Option Addr} {c : Nat} {l : List Int} (h : St w0 F (osl (.slice a l.length c) 5 1 l.length (bv l) :: R) w) : St w0 F (rr2 a l :: R) w :=
  h.turn (Sel.head _ _ _) rfl (St.refl w _) (ownsRow_rd (h.holds _ (List.Mem.head _))) (fun k hk => .inl (St.osl_foot hk)) (rr2_dep _ _)
theorem c65 (a : Option Addr) (ca : Nat) (l : List Int) (w : World) (hr : Rd w a (bv l)) (hz : a = none → ca = 0) (hm : l.length ≤ 140737488355328) :
    CallsTo Tryz.prog 58 [.slice a l.length ca] w fun v w' => ∃ br a' c', v = .pointer (some ⟨br, 0, none⟩) ∧ New1 (rrA 142 [.bool true] br a' c' l) w w' := by
  refine go_in (n := 7) (St.rd1 hr) Tryz.func58 rfl rfl ?_
  repeat'(first|refine kv' ?_|apply jJ|refine jE' ?_|refine jp' ?_|(apply jc;kernel_rfl)|refine kg' ?_|refine kG' ?_|refine kB' fun _=>?_|refine kA' fun _=>?_|refine kK' fun _=>?_|refine kU' ?_|((first|refine kR' ?_ ?_|refine kQ' ?_ ?_);all_goals(intro hc;try simp only[hcs]at hc;try(exfalso;first|contradiction|omega))))
  apply LR.call
  · exact rfl
  intro w1 h1
  refine (c86 a ca l w1 (h1.rd_of (List.Mem.head _)) hz hm).mono ?_
  rintro v w2 ⟨a2, c2, rfl, hn⟩
  refine LR.back (newB_rr h1 hn) ?_
  have hnc := ownsRow_cap hn.own
  have hns := hn.some_of
  repeat'(first|refine kv' ?_|apply jJ|refine jE' ?_|refine jp' ?_|(apply jc;kernel_rfl)|refine kg' ?_|refine kG' ?_|refine kB' fun _=>?_|refine kA' fun _=>?_|refine kK' fun _=>?_|refine kU' ?_|((first|refine kR' ?_ ?_|refine kQ' ?_ ?_);all_goals(intro hc;try simp only[hcs]at hc;try(exfalso;first|contradiction|omega))))
  (apply ret1; (· exact rfl); intro w' hS)
  exact ⟨_, a2, c2, rfl, (rr_shut (hS.cast (by rfl)) hnc (fun e => (hns e).2)).new1 rfl⟩

theorem c69 (a : Option Addr) (ca : Nat) (l : List Int) (w : World) (hr : Rd w a (bv l)) (hz : a = none → ca = 0) (hm : l.length ≤ 140737488355328) :
    CallsTo Tryz.prog 61 [.slice a l.length ca] w fun v w' => ∃ br a' c', v = .pointer (some ⟨br, 0, none⟩) ∧ New1 (rrA 143 [] br a' c' l) w w' := by
  refine go_in (n := 16) (St.rd1 hr) Tryz.func61 rfl rfl ?_
  repeat'(first|refine kv' ?_|apply jJ|refine jE' ?_|refine jp' ?_|(apply jc;kernel_rfl)|refine kg' ?_|refine kG' ?_|refine kB' fun _=>?_|refine kA' fun _=>?_|refine kK' fun _=>?_|refine kU' ?_|(refine LR.append_nil (news := bv l) rfl rfl (fun w' hw' => hw'.rd_of (List.Mem.tail _ (List.Mem.head _))) (fun hx => ⟨hr.none_len hx, hz hx⟩) (by simp) (bv_one l) (by omega) (by unfold maxLen; omega) rfl ?_; intro a2 c2)|((first|refine kR' ?_ ?_|refine kQ' ?_ ?_);all_goals(intro hc;try simp only[hcs]at hc;try(exfalso;first|contradiction|omega))))
  (apply ret1; (· exact rfl); intro w' hS)
  have hnc := ownsRow_cap (hS.holds _ (List.Mem.head _) : World.ownsRow _ _ _ _ _ _ _)
  have hns := ownsRow_some (hS.holds _ (List.Mem.head _) : World.ownsRow _ _ _ _ _ _ _)
  exact ⟨_, a2, c2, rfl, (rr_shut ((osl_rr hS).swap.cast (by rfl)) hnc (fun e => (hns e).2)).new1 rfl⟩

def octs (most : Int) (l : List Int) : List Int × Int × List Int :=
  if (dec l).2.2 ≠ 0 then ([], (dec l).2.2, l)
  else if most < ((dec l).1 : Int) then ([], 5, l)
  else if ((l.length - (dec l).2.1 : Nat) : Int) < ((dec l).1 : Int) then ([], 3, l)
  else ((l.drop (dec l).2.1).take (dec l).1, 0, l.drop ((dec l).2.1 + (dec l).1))
def bsl (a : Option Addr) (c : Nat) (l : List Int) : Asrt := osl (.slice a l.length c) 5 1 l.length (bv l)

theorem rd_mid {w : World} {a : Option Addr} {c n k : Nat} {l : List Int} (h : Rd w a (bv l)) (hc : l.length ≤ c) : Rd w (subA a c n 1) (bv ((l.drop n).take k)) := by
  have := (h.drop (l := n) (sz := 1) (c := c) (fun e => by simp; omega)).take k
  simpa using this
theorem nilB {w0 w : World} {F : Nat → Prop} {L : List Asrt} (h : St w0 F L w) : St w0 F (bsl none 0 [] :: L) w :=
  h.push (Grew.refl w) (World.ownsRow_nil w 0 5 1) (fun k hk => by simp [bsl, osl, Asrt.foot, Value.ownBlock] at hk) (osl.dep _ _ _ _ _)

theorem octs_ok {most : Int} {l : List Int} (h1 : (dec l).2.2 = 0) (h2 : ((dec l).1 : Int) ≤ most) (h3 : ((dec l).1 : Int) ≤ (l.length : Int) - ((dec l).2.1 : Int)) : octs most l = ((l.drop (dec l).2.1).take (dec l).1, 0, l.drop ((dec l).2.1 + (dec l).1)) := by
  unfold octs; rw [if_neg (by simpa using h1), if_neg (by omega), if_neg (by omega)]
theorem octs_len {l : List Int} (h3 : ((dec l).1 : Int) ≤ (l.length : Int) - ((dec l).2.1 : Int)) : (((dec l).2.1 : Int) + ((dec l).1 : Int)).toNat - (((dec l).2.1 : Nat) : Int).toNat = ((l.drop (dec l).2.1).take (dec l).1).length := by
  simp; omega
theorem rr_drop2 {T : Nat} {ex : List Value} {w0 w : World} {F : Nat → Prop} {R : List Asrt} {br : Nat} {a : Option Addr} {c n : Nat} {l : List Int} {cs : List Value}
    (h : St w0 F (.own br (.cells cs.toArray T (0, 0)) :: rr2 a l :: R) w) (hcs : cs = .slice (subA a c n 1) (l.length - n) (c - n) :: ex) (hc : l.length ≤ c) (hz : a = none → c = 0) (hn : n ≤ l.length) :
    St w0 F (rrA T ex br (subA a c n 1) (c - n) (l.drop n) :: R) w := by
  subst hcs
  refine rr_shut ((rr_drop (n := n) h hc).cast ?_) (by simp; omega) (subA_none hz)
  simp [rr1]

theorem c67 (br : Nat) (a : Option Addr) (c : Nat) (l : List Int) (most : Int) (w : World) (h : rrP 142 [.bool true] br a c l w) (hb : Byt l) (hm : l.length ≤ 140737488355328) :
    CallsTo Tryz.prog 109 [.pointer (some ⟨br, 0, none⟩), .int .i64 most] w fun v w' => ∃ a' c' a2 c2, v = .tuple [.slice a2 (octs most l).1.length c2, .int .i64 (octs most l).2.1].toArray ∧
      St w (rrF br a l) [rrA 142 [.bool true] br a' c' (octs most l).2.2, bsl a2 c2 (octs most l).1] w' := by
  have hlc := h.2.2.1
  have hz := h.2.2.2.1
  have hn := dec_le l
  have hbd := decF_bound 8 0 0 l
  refine go_in (n := 58) (rr_start h) Tryz.func109 rfl rfl ?_
  by_cases h1 : (dec l).2.2 = 0
  · have hv : (dec l).1 ≤ 9007199254740991 := (hbd.2 h1).2
    repeat'(first|refine kv' ?_|apply jJ|refine jE' ?_|refine jp' ?_|(apply jc;kernel_rfl)|refine kg' ?_|refine kG' ?_|refine kB' fun _=>?_|refine kA' fun _=>?_|refine kK' fun _=>?_|refine kU' ?_|(apply LR.qcall; (· exact rfl); (· intro w1 h1; first | exact CallsTo.q (c99 br (.slice a l.length c) w1 (h1.own_at (List.Mem.head _))) h1 | exact CallsTo.q (c100 _ _ _ _ w1 (rr_hold h1 hlc hz) hb (by omega)) h1))|(apply LR.ev; (· apply Ev.slice_lohi; (· exact rfl); (· exact rfl); (· exact rfl); (· first | omega | (dsimp only; omega)); (· first | omega | (dsimp only; omega)); (· first | omega | (dsimp only; omega))); (· exact rfl))|(apply LR.ev; (· apply Ev.slice_lo; (· exact rfl); (· exact rfl); (· first | omega | (dsimp only; omega)); (· first | omega | (dsimp only; omega))); (· exact rfl))|(apply addX;(iterate 2 exact rfl);(iterate 2(first|omega|(dsimp only;omega)));exact rfl)|(apply subX;(iterate 2 exact rfl);(iterate 2(first|omega|(dsimp only;omega)));exact rfl)|((first|refine kR' ?_ ?_|refine kQ' ?_ ?_);all_goals(intro hc;try simp only[hcs]at hc;try(exfalso;first|contradiction|omega))))
    · (apply ret2; (· exact rfl); intro w' hS)
      have e : octs most l = ([], 5, l) := by unfold octs; rw [if_neg (by simpa using h1), if_pos (by assumption)]
      rw [e]
      exact ⟨a, c, none, 0, rfl, (nilB (rr_shut hS hlc hz)).swap⟩
    · (apply ret2; (· exact rfl); intro w' hS)
      have e : octs most l = ([], 3, l) := by unfold octs; rw [if_neg (by simpa using h1), if_neg (by omega), if_pos (by omega)]
      rw [e]
      exact ⟨a, c, none, 0, rfl, (nilB (rr_shut hS hlc hz)).swap⟩
    · rw [octs_len hc, octs_ok h1 (by assumption) hc]
      apply LR.call
      · exact rfl
      intro w1 h2
      refine (c86 _ _ ((l.drop (dec l).2.1).take (dec l).1) w1 (rd_mid (h2.holds _ (List.Mem.tail _ (List.Mem.head _))) hlc) (subA_none hz) (by simp; omega)).mono ?_
      rintro v w2 ⟨a2, c2, rfl, hnew⟩
      refine LR.back (h2.newSl hnew) ?_
      repeat'(first|refine kv' ?_|apply jJ|refine jE' ?_|refine jp' ?_|(apply jc;kernel_rfl)|refine kg' ?_|refine kG' ?_|refine kB' fun _=>?_|refine kA' fun _=>?_|refine kK' fun _=>?_|refine kU' ?_|(apply LR.ev; (· apply Ev.slice_lo; (· exact rfl); (· exact rfl); (· first | omega | (dsimp only; omega)); (· first | omega | (dsimp only; omega))); (· exact rfl))|(apply addX;(iterate 2 exact rfl);(iterate 2(first|omega|(dsimp only;omega)));exact rfl)|((first|refine kR' ?_ ?_|refine kQ' ?_ ?_);all_goals(intro hc;try simp only[hcs]at hc;try(exfalso;first|contradiction|omega))))
      (apply ret2; (· exact rfl); intro w' hS)
      have e3 : (((dec l).2.1 : Int) + ((dec l).1 : Int)).toNat = (dec l).2.1 + (dec l).1 := by omega
      rw [e3] at hS
      refine ⟨subA a c ((dec l).2.1 + (dec l).1) 1, c - ((dec l).2.1 + (dec l).1), a2, c2, rfl, ?_⟩
      refine ((rr_drop2 (n := (dec l).2.1 + (dec l).1) (ex := [.bool true]) (R := [_]) (St.rot hS) ?_ hlc hz (by omega)))
      simp [splice]
  · repeat'(first|refine kv' ?_|apply jJ|refine jE' ?_|refine jp' ?_|(apply jc;kernel_rfl)|refine kg' ?_|refine kG' ?_|refine kB' fun _=>?_|refine kA' fun _=>?_|refine kK' fun _=>?_|refine kU' ?_|(apply LR.qcall; (· exact rfl); (· intro w1 h1; first | exact CallsTo.q (c99 br (.slice a l.length c) w1 (h1.own_at (List.Mem.head _))) h1 | exact CallsTo.q (c100 _ _ _ _ w1 (rr_hold h1 hlc hz) hb (by omega)) h1))|((first|refine kR' ?_ ?_|refine kQ' ?_ ?_);all_goals(intro hc;try simp only[hcs]at hc;try(exfalso;first|contradiction|omega))))
    (apply ret2; (· exact rfl); intro w' hS)
    have e : octs most l = ([], (dec l).2.2, l) := by unfold octs; rw [if_pos h1]
    rw [e]
    exact ⟨a, c, none, 0, rfl, (nilB (rr_shut hS hlc hz)).swap⟩

theorem c71 (br : Nat) (a : Option Addr) (c : Nat) (l : List Int) (most : Int) (w : World) (h : rrP 143 [] br a c l w) (hb : Byt l) (hm : l.length ≤ 140737488355328) :
    CallsTo Tryz.prog 101 [.pointer (some ⟨br, 0, none⟩), .int .i64 most] w fun v w' => ∃ a' c' a2 c2, v = .tuple [.slice a2 (octs most l).1.length c2, .int .i64 (octs most l).2.1].toArray ∧
      St w (rrF br a l) [rrA 143 [] br a' c' (octs most l).2.2, bsl a2 c2 (octs most l).1] w' := by
  have hlc := h.2.2.1
  have hz := h.2.2.2.1
  have hn := dec_le l
  have hbd := decF_bound 8 0 0 l
  refine go_in (n := 54) (rr_start h) Tryz.func101 rfl rfl ?_
  by_cases h1 : (dec l).2.2 = 0
  · have hv : (dec l).1 ≤ 9007199254740991 := (hbd.2 h1).2
    repeat'(first|refine kv' ?_|apply jJ|refine jE' ?_|refine jp' ?_|(apply jc;kernel_rfl)|refine kg' ?_|refine kG' ?_|refine kB' fun _=>?_|refine kA' fun _=>?_|refine kK' fun _=>?_|refine kU' ?_|(apply LR.qcall; (· exact rfl); (· intro w1 h1; exact CallsTo.q (c101 _ _ _ _ w1 (rr_hold h1 hlc hz) hb (by omega)) h1))|(apply LR.ev; (· apply Ev.slice_lohi; (· exact rfl); (· exact rfl); (· exact rfl); (· first | omega | (dsimp only; omega)); (· first | omega | (dsimp only; omega)); (· first | omega | (dsimp only; omega))); (· exact rfl))|(apply LR.ev; (· apply Ev.slice_lo; (· exact rfl); (· exact rfl); (· first | omega | (dsimp only; omega)); (· first | omega | (dsimp only; omega))); (· exact rfl))|(apply addX;(iterate 2 exact rfl);(iterate 2(first|omega|(dsimp only;omega)));exact rfl)|(apply subX;(iterate 2 exact rfl);(iterate 2(first|omega|(dsimp only;omega)));exact rfl)|((first|refine kR' ?_ ?_|refine kQ' ?_ ?_);all_goals(intro hc;try simp only[hcs]at hc;try(exfalso;first|contradiction|omega))))
    · (apply ret2; (· exact rfl); intro w' hS)
      have e : octs most l = ([], 5, l) := by unfold octs; rw [if_neg (by simpa using h1), if_pos (by assumption)]
      rw [e]
      exact ⟨a, c, none, 0, rfl, (nilB (rr_shut hS hlc hz)).swap⟩
    · (apply ret2; (· exact rfl); intro w' hS)
      have e : octs most l = ([], 3, l) := by unfold octs; rw [if_neg (by simpa using h1), if_neg (by omega), if_pos (by omega)]
      rw [e]
      exact ⟨a, c, none, 0, rfl, (nilB (rr_shut hS hlc hz)).swap⟩
    · rw [octs_len hc, octs_ok h1 (by assumption) hc]
      refine LR.append_nil (news := bv ((l.drop (dec l).2.1).take (dec l).1)) rfl rfl (fun w' hw' => rd_mid (hw'.holds _ (List.Mem.tail _ (List.Mem.head _))) hlc) (fun e => ⟨?_, subA_none hz e⟩) (by simp) (bv_one _) (by simp; omega) (by unfold maxLen; simp; omega) rfl ?_
      · exact (rd_mid (n := (dec l).2.1) (k := (dec l).1) h.2.1 hlc).none_len e
      intro a2 c2
      repeat'(first|refine kv' ?_|apply jJ|refine jE' ?_|refine jp' ?_|(apply jc;kernel_rfl)|refine kg' ?_|refine kG' ?_|refine kB' fun _=>?_|refine kA' fun _=>?_|refine kK' fun _=>?_|refine kU' ?_|(apply LR.ev; (· apply Ev.slice_lo; (· exact rfl); (· exact rfl); (· first | omega | (dsimp only; omega)); (· first | omega | (dsimp only; omega))); (· exact rfl))|(apply addX;(iterate 2 exact rfl);(iterate 2(first|omega|(dsimp only;omega)));exact rfl)|((first|refine kR' ?_ ?_|refine kQ' ?_ ?_);all_goals(intro hc;try simp only[hcs]at hc;try(exfalso;first|contradiction|omega))))
      (apply ret2; (· exact rfl); intro w' hS)
      have e3 : (((dec l).2.1 : Int) + ((dec l).1 : Int)).toNat = (dec l).2.1 + (dec l).1 := by omega
      rw [e3] at hS
      refine ⟨subA a c ((dec l).2.1 + (dec l).1) 1, c - ((dec l).2.1 + (dec l).1), a2, c2, rfl, ?_⟩
      refine ((rr_drop2 (n := (dec l).2.1 + (dec l).1) (ex := []) (R := [_]) (St.rot hS) ?_ hlc hz (by omega)))
      simp [splice]
  · repeat'(first|refine kv' ?_|apply jJ|refine jE' ?_|refine jp' ?_|(apply jc;kernel_rfl)|refine kg' ?_|refine kG' ?_|refine kB' fun _=>?_|refine kA' fun _=>?_|refine kK' fun _=>?_|refine kU' ?_|(apply LR.qcall; (· exact rfl); (· intro w1 h1; exact CallsTo.q (c101 _ _ _ _ w1 (rr_hold h1 hlc hz) hb (by omega)) h1))|((first|refine kR' ?_ ?_|refine kQ' ?_ ?_);all_goals(intro hc;try simp only[hcs]at hc;try(exfalso;first|contradiction|omega))))
    (apply ret2; (· exact rfl); intro w' hS)
    have e : octs most l = ([], (dec l).2.2, l) := by unfold octs; rw [if_pos h1]
    rw [e]
    exact ⟨a, c, none, 0, rfl, (nilB (rr_shut hS hlc hz)).swap⟩
end Go.Proofs.YtkolmkdbjagfcaaGreat

namespace Go.Proofs.YtkolmkdbjagfcaaGreat
open Go.Hb
attribute [local irreducible] LR CW At Ev thn blk finK again CallsTo
set_option maxRecDepth 100000

def numB (x : Int) : Bool := decide (0 ≤ x) && decide (x ≤ 9007199254740991)
theorem c95 (x : Int) (w : World) : CallsTo Tryz.prog 114 [.int .i64 x] w fun v w' => v = .bool (numB x) ∧ Grew w w' := by
  refine go_in (n := 9) (St.refl _ NoF) Tryz.func114 rfl rfl ?_
  repeat'(first|refine kv' ?_|apply jJ|refine jE' ?_|refine jp' ?_|(apply jc;kernel_rfl)|refine kg' ?_|refine kG' ?_|refine kB' fun _=>?_|refine kA' fun _=>?_|refine kK' fun _=>?_|refine kU' ?_|((first|refine kR' ?_ ?_|refine kQ' ?_ ?_);all_goals(intro hc;try simp only[hcs]at hc;try(exfalso;first|contradiction|omega))))
  all_goals (
    (apply ret1; (· exact rfl); intro w' hS)
    refine ⟨congrArg Value.bool ?_, hS⟩
    simp [numB, *]; try omega)

def withinB (x a b : Int) : Bool := decide (a ≤ x) && decide (x ≤ b)
theorem c59 (x a b : Int) (w : World) : CallsTo Tryz.prog 112 [.int .i64 x, .int .i64 a, .int .i64 b] w fun v w' => v = .bool (withinB x a b) ∧ Grew w w' := by
  refine go_in (n := 15) (St.refl _ NoF) Tryz.func112 rfl rfl ?_
  repeat'(first|refine kv' ?_|apply jJ|refine jE' ?_|refine jp' ?_|(apply jc;kernel_rfl)|refine kg' ?_|refine kG' ?_|refine kB' fun _=>?_|refine kA' fun _=>?_|refine kK' fun _=>?_|refine kU' ?_|((first|refine kR' ?_ ?_|refine kQ' ?_ ?_);all_goals(intro hc;try simp only[hcs]at hc;try(exfalso;first|contradiction|omega))))
  all_goals (
    (apply ret1; (· exact rfl); intro w' hS)
    refine ⟨congrArg Value.bool ?_, hS⟩
    simp [withinB, *]; try omega)

def ringB (s r : Int) : Bool := decide (s = 0 ∧ r = 0) || (decide (0 < s) && numB s && decide (0 < r) && decide (r ≤ 8))
def ringE (s r : Int) : Int := if ringB s r then 0 else 2
theorem c81 (s r : Int) (w : World) : CallsTo Tryz.prog 88 [.agg [.int .i64 s, .int .i64 r].toArray] w fun v w' => v = .int .i64 (ringE s r) ∧ Grew w w' := by
  refine go_in (n := 26) (St.refl _ NoF) Tryz.func88 rfl rfl ?_
  repeat'(first|refine kv' ?_|apply jJ|refine jE' ?_|refine jp' ?_|(apply jc;kernel_rfl)|refine kg' ?_|refine kG' ?_|refine kB' fun _=>?_|refine kA' fun _=>?_|refine kK' fun _=>?_|refine kU' ?_|(apply kq;(·exact rfl);(·intro w1 h1;exact CallsTo.q (c95 _ w1) h1))|((first|refine kR' ?_ ?_|refine kQ' ?_ ?_);all_goals(intro hc;try simp only[hcs]at hc;try(exfalso;first|contradiction|omega))))
  all_goals (
    (apply ret1; (· exact rfl); intro w' hS)
    refine ⟨congrArg (Value.int .i64) ?_, hS.toKeep⟩
    simp_all [ringE, ringB]; try omega)

def keyB (t s r q : Int) : Bool := numB t && numB q && ringB s r
def keyE (t s r q : Int) : Int := if keyB t s r q then 0 else 2
theorem c60 (t s r q : Int) (w : World) : CallsTo Tryz.prog 113 [.agg [.int .i64 t, .int .i64 s, .int .i64 r, .int .i64 q].toArray] w fun v w' => v = .int .i64 (keyE t s r q) ∧ Grew w w' := by
  refine go_in (n := 16) (St.refl _ NoF) Tryz.func113 rfl rfl ?_
  repeat'(first|refine kv' ?_|apply jJ|refine jE' ?_|refine jp' ?_|(apply jc;kernel_rfl)|refine kg' ?_|refine kG' ?_|refine kB' fun _=>?_|refine kA' fun _=>?_|refine kK' fun _=>?_|refine kU' ?_|(apply kq;(·exact rfl);(·intro w1 h1;exact CallsTo.q (c95 _ w1) h1))|(apply kq;(·exact rfl);(·intro w1 h1;exact CallsTo.q (c81 _ _ w1) h1))|((first|refine kR' ?_ ?_|refine kQ' ?_ ?_);all_goals(intro hc;try simp only[hcs]at hc;try(exfalso;first|contradiction|omega))))
  all_goals (
    (apply ret1; (· exact rfl); intro w' hS)
    refine ⟨congrArg (Value.int .i64) ?_, hS.toKeep⟩
    simp_all [keyE, keyB, ringE]; try omega)
end Go.Proofs.YtkolmkdbjagfcaaGreat

namespace Go.Proofs.YtkolmkdbjagfcaaGreat
open Go.Hb
attribute [local irreducible] LR CW At Ev thn blk finK noG again CallsTo
set_option maxRecDepth 100000

structure Msg where
  kind : Int
  origin : Int
  life : Int
  id : Int
  part : Int
  parts : Int
  groups : Int
  safe : Bool
  stamp : Int
  rseq : Int
  rrep : Int
  kseq : Int
  body : List Int

def Msg.cells (m : Msg) (a : Option Addr) (c : Nat) : List Value :=
  [.int .i64 m.kind, .int .i64 m.origin, .int .i64 m.life, .int .i64 m.id, .int .i64 m.part, .int .i64 m.parts, .int .i64 m.groups, .bool m.safe, .int .i64 m.stamp, .int .i64 m.rseq, .int .i64 m.rrep, .int .i64 m.kseq, .slice a m.body.length c]
def Msg.val (m : Msg) (a : Option Addr) (c : Nat) : Value := .agg (m.cells a c).toArray

theorem numB_iff (x : Int) : numB x = decide (0 ≤ x ∧ x ≤ 9007199254740991) := by unfold numB; rw [Bool.eq_iff_iff]; simp
theorem withinB_iff (x a b : Int) : withinB x a b = decide (a ≤ x ∧ x ≤ b) := by unfold withinB; rw [Bool.eq_iff_iff]; simp

theorem c96 (x : Int) (w : World) : CallsTo Tryz.prog 115 [.int .i64 x] w fun v w' => v = .bool (numB x) ∧ Grew w w' := by
  refine go_in (n := 9) (St.refl _ NoF) Tryz.func115 rfl rfl ?_
  repeat'(first|refine kv' ?_|apply jJ|refine jE' ?_|refine jp' ?_|(apply jc;kernel_rfl)|refine kg' ?_|refine kG' ?_|refine kB' fun _=>?_|refine kA' fun _=>?_|refine kK' fun _=>?_|refine kU' ?_|((first|refine kR' ?_ ?_|refine kQ' ?_ ?_);all_goals(intro hc;try simp only[hcs]at hc;try(exfalso;first|contradiction|omega))))
  all_goals (
    (apply ret1; (· exact rfl); intro w' hS)
    refine ⟨congrArg Value.bool ?_, hS⟩
    simp [numB, *]; try omega)
theorem c62 (x : Int) (w : World) : CallsTo Tryz.prog 91 [.int .i64 x] w fun v w' => v = .bool (numB x) ∧ Grew w w' := by
  refine go_in (n := 9) (St.refl _ NoF) Tryz.func91 rfl rfl ?_
  repeat'(first|refine kv' ?_|apply jJ|refine jE' ?_|refine jp' ?_|(apply jc;kernel_rfl)|refine kg' ?_|refine kG' ?_|refine kB' fun _=>?_|refine kA' fun _=>?_|refine kK' fun _=>?_|refine kU' ?_|((first|refine kR' ?_ ?_|refine kQ' ?_ ?_);all_goals(intro hc;try simp only[hcs]at hc;try(exfalso;first|contradiction|omega))))
  all_goals (
    (apply ret1; (· exact rfl); intro w' hS)
    refine ⟨congrArg Value.bool ?_, hS⟩
    simp [numB, *]; try omega)
theorem c61 (x : Int) (w : World) : CallsTo Tryz.prog 90 [.int .i64 x] w fun v w' => v = .bool (withinB x 1 8) ∧ Grew w w' := by
  refine go_in (n := 9) (St.refl _ NoF) Tryz.func90 rfl rfl ?_
  repeat'(first|refine kv' ?_|apply jJ|refine jE' ?_|refine jp' ?_|(apply jc;kernel_rfl)|refine kg' ?_|refine kG' ?_|refine kB' fun _=>?_|refine kA' fun _=>?_|refine kK' fun _=>?_|refine kU' ?_|((first|refine kR' ?_ ?_|refine kQ' ?_ ?_);all_goals(intro hc;try simp only[hcs]at hc;try(exfalso;first|contradiction|omega))))
  all_goals (
    (apply ret1; (· exact rfl); intro w' hS)
    refine ⟨congrArg Value.bool ?_, hS⟩
    simp [withinB, *]; try omega)
theorem ringE_eq (s r : Int) : ringE s r = if (s = 0 ∧ r = 0) ∨ (0 < s ∧ s ≤ 9007199254740991 ∧ 0 < r ∧ r ≤ 8) then 0 else 2 := by
  unfold ringE ringB numB
  have : ((decide (s = 0 ∧ r = 0) || (decide (0 < s) && (decide (0 ≤ s) && decide (s ≤ 9007199254740991)) && decide (0 < r) && decide (r ≤ 8))) = true) ↔ ((s = 0 ∧ r = 0) ∨ (0 < s ∧ s ≤ 9007199254740991 ∧ 0 < r ∧ r ≤ 8)) := by
    simp; omega
  by_cases h : (s = 0 ∧ r = 0) ∨ (0 < s ∧ s ≤ 9007199254740991 ∧ 0 < r ∧ r ≤ 8)
  · rw [if_pos (this.2 h), if_pos h]
  · rw [if_neg (fun e => h (this.1 e)), if_neg h]
theorem c97 (s r : Int) (w : World) : CallsTo Tryz.prog 89 [.agg [.int .i64 s, .int .i64 r].toArray] w fun v w' => v = .int .i64 (ringE s r) ∧ Grew w w' := by
  rw [ringE_eq]
  refine go_in (n := 31) (St.refl _ NoF) Tryz.func89 rfl rfl ?_
  repeat'(first|refine kv' ?_|apply jJ|refine jE' ?_|refine jp' ?_|(apply jc;kernel_rfl)|refine kg' ?_|refine kG' ?_|refine kB' fun _=>?_|refine kA' fun _=>?_|refine kK' fun _=>?_|refine kU' ?_|(apply kq;(·exact rfl);(·intro w1 h1;exact CallsTo.q (c96 _ w1) h1))|((first|refine kR' ?_ ?_|refine kQ' ?_ ?_);all_goals(intro hc;try simp only[hcs]at hc;try(exfalso;first|contradiction|omega))))
  all_goals (
    (apply ret1; (· exact rfl); intro w' hS)
    refine ⟨congrArg (Value.int .i64) ?_, hS.toKeep⟩
    try simp only [numB_iff, decide_eq_true_eq, decide_eq_false_iff_not] at *
    first | rw [if_pos (by omega)] | rw [if_neg (by omega)])
theorem c63 (t s r q : Int) (w : World) : CallsTo Tryz.prog 92 [.agg [.int .i64 t, .int .i64 s, .int .i64 r, .int .i64 q].toArray] w fun v w' => v = .int .i64 (keyE t s r q) ∧ Grew w w' := by
  refine go_in (n := 16) (St.refl _ NoF) Tryz.func92 rfl rfl ?_
  repeat'(first|refine kv' ?_|apply jJ|refine jE' ?_|refine jp' ?_|(apply jc;kernel_rfl)|refine kg' ?_|refine kG' ?_|refine kB' fun _=>?_|refine kA' fun _=>?_|refine kK' fun _=>?_|refine kU' ?_|(apply kq;(·exact rfl);(·intro w1 h1;exact CallsTo.q (c96 _ w1) h1))|(apply kq;(·exact rfl);(·intro w1 h1;exact CallsTo.q (c97 _ _ w1) h1))|((first|refine kR' ?_ ?_|refine kQ' ?_ ?_);all_goals(intro hc;try simp only[hcs]at hc;try(exfalso;first|contradiction|omega))))
  all_goals (
    (apply ret1; (· exact rfl); intro w' hS)
    refine ⟨congrArg (Value.int .i64) ?_, hS.toKeep⟩
    simp_all [keyE, keyB, ringE]; try omega)

def plainB (m : Msg) : Bool := decide (m.life = 0 ∧ m.part = 0 ∧ m.parts = 0 ∧ m.groups = 0 ∧ m.safe = false)
theorem c103 (m : Msg) (a : Option Addr) (c : Nat) (w : World) : CallsTo Tryz.prog 128 [m.val a c] w fun v w' => v = .bool (plainB m) ∧ Grew w w' := by
  obtain ⟨kd, og, lf, idn, pt, pts, gr, sf, st, rs, rr, ks, bd⟩ := m
  unfold plainB
  cases sf
  all_goals (
    refine go_in (n := 26) (St.refl _ NoF) Tryz.func128 rfl rfl ?_
    repeat'(first|refine kv' ?_|apply jJ|refine jE' ?_|refine jp' ?_|(apply jc;kernel_rfl)|refine kg' ?_|refine kG' ?_|refine kB' fun _=>?_|refine kA' fun _=>?_|refine kK' fun _=>?_|refine kU' ?_|((first|refine kR' ?_ ?_|refine kQ' ?_ ?_);all_goals(intro hc;try simp only[hcs]at hc;try(exfalso;first|contradiction|omega))))
    all_goals (apply ret1; (· exact rfl); intro w' hS; refine ⟨congrArg Value.bool ?_, hS.toKeep⟩; rw [Bool.eq_iff_iff]; (try simp only [decide_eq_true_eq, Bool.not_eq_true', decide_eq_false_iff_not, Bool.false_eq_true, Bool.true_eq_false, true_iff, false_iff, iff_true, iff_false, reduceCtorEq, not_true_eq_false, not_false_eq_true, List.cons.injEq, and_true]); first | omega | (simp; done) | (simp; omega) | (simp_all; done))
    )
theorem c98 (m : Msg) (a : Option Addr) (c : Nat) (w : World) : CallsTo Tryz.prog 116 [m.val a c] w fun v w' => v = .bool (plainB m) ∧ Grew w w' := by
  obtain ⟨kd, og, lf, idn, pt, pts, gr, sf, st, rs, rr, ks, bd⟩ := m
  unfold plainB
  cases sf
  all_goals (
    refine go_in (n := 26) (St.refl _ NoF) Tryz.func116 rfl rfl ?_
    repeat'(first|refine kv' ?_|apply jJ|refine jE' ?_|refine jp' ?_|(apply jc;kernel_rfl)|refine kg' ?_|refine kG' ?_|refine kB' fun _=>?_|refine kA' fun _=>?_|refine kK' fun _=>?_|refine kU' ?_|((first|refine kR' ?_ ?_|refine kQ' ?_ ?_);all_goals(intro hc;try simp only[hcs]at hc;try(exfalso;first|contradiction|omega))))
    all_goals (apply ret1; (· exact rfl); intro w' hS; refine ⟨congrArg Value.bool ?_, hS.toKeep⟩; rw [Bool.eq_iff_iff]; (try simp only [decide_eq_true_eq, Bool.not_eq_true', decide_eq_false_iff_not, Bool.false_eq_true, Bool.true_eq_false, true_iff, false_iff, iff_true, iff_false, reduceCtorEq, not_true_eq_false, not_false_eq_true, List.cons.injEq, and_true]); first | omega | (simp; done) | (simp; omega) | (simp_all; done))
    )

theorem c59_t {x a b : Int} (h : a ≤ x ∧ x ≤ b) (w : World) : CallsTo Tryz.prog 112 [.int .i64 x, .int .i64 a, .int .i64 b] w fun v w' => v = .bool true ∧ Grew w w' := by
  have := c59 x a b w; rw [withinB_iff, decide_eq_true h] at this; exact this
theorem c59_f {x a b : Int} (h : ¬ (a ≤ x ∧ x ≤ b)) (w : World) : CallsTo Tryz.prog 112 [.int .i64 x, .int .i64 a, .int .i64 b] w fun v w' => v = .bool false ∧ Grew w w' := by
  have := c59 x a b w; rw [withinB_iff, decide_eq_false h] at this; exact this
def textB (m : Msg) : Bool := decide (1 ≤ m.parts ∧ m.parts ≤ 5 ∧ 0 ≤ m.part ∧ m.part ≤ m.parts - 1 ∧ 0 < m.groups ∧ 0 < m.life ∧ m.body.length ≤ 48)
theorem c90 (m : Msg) (a : Option Addr) (c : Nat) (w : World) : CallsTo Tryz.prog 122 [m.val a c] w fun v w' => v = .bool (textB m) ∧ Grew w w' := by
  obtain ⟨kd, og, lf, idn, pt, pts, gr, sf, st, rs, rr, ks, bd⟩ := m
  unfold textB
  by_cases h1 : 1 ≤ pts ∧ pts ≤ 5
  all_goals (
    refine go_in (n := 30) (St.refl _ NoF) Tryz.func122 rfl rfl ?_
    repeat'(first|refine kv' ?_|apply jJ|refine jE' ?_|refine jp' ?_|(apply jc;kernel_rfl)|refine kg' ?_|refine kG' ?_|refine kB' fun _=>?_|refine kA' fun _=>?_|refine kK' fun _=>?_|refine kU' ?_|(apply LR.qcall; (· exact rfl); (· intro w1 h1; first | exact CallsTo.q (c59_t (by omega) w1) h1 | exact CallsTo.q (c59_f (by omega) w1) h1 | exact CallsTo.q (c59 _ _ _ w1) h1))|(apply subX;(iterate 2 exact rfl);(iterate 2(first|omega|(dsimp only;omega)));exact rfl)|((first|refine kR' ?_ ?_|refine kQ' ?_ ?_);all_goals(intro hc;try simp only[hcs]at hc;try(exfalso;first|contradiction|omega))))
    all_goals try simp only [withinB_iff, decide_eq_true_eq, decide_eq_false_iff_not] at *
    all_goals (apply ret1; (· exact rfl); intro w' hS; refine ⟨congrArg Value.bool ?_, hS.toKeep⟩; rw [Bool.eq_iff_iff]; (try simp only [decide_eq_true_eq, Bool.not_eq_true', decide_eq_false_iff_not, Bool.false_eq_true, Bool.true_eq_false, true_iff, false_iff, iff_true, iff_false, reduceCtorEq, not_true_eq_false, not_false_eq_true, List.cons.injEq, and_true]); first | omega | (simp; done) | (simp; omega) | (simp_all; done))
    )
def emptyB (m : Msg) : Bool := plainB m && decide (m.id = 0 ∧ m.body.length = 0)
theorem c91 (m : Msg) (a : Option Addr) (c : Nat) (w : World) : CallsTo Tryz.prog 123 [m.val a c] w fun v w' => v = .bool (emptyB m) ∧ Grew w w' := by
  refine go_in (n := 16) (St.refl _ NoF) Tryz.func123 rfl rfl ?_
  repeat'(first|refine kv' ?_|apply jJ|refine jE' ?_|refine jp' ?_|(apply jc;kernel_rfl)|refine kg' ?_|refine kG' ?_|refine kB' fun _=>?_|refine kA' fun _=>?_|refine kK' fun _=>?_|refine kU' ?_|(apply kq;(·exact rfl);(·intro w1 h1;exact CallsTo.q (c103 m a c w1) h1))|((first|refine kR' ?_ ?_|refine kQ' ?_ ?_);all_goals(intro hc;try simp only[hcs]at hc;try(exfalso;first|contradiction|omega))))
  all_goals (
    (apply ret1; (· exact rfl); intro w' hS)
    refine ⟨congrArg Value.bool ?_, hS.toKeep⟩
    simp [emptyB, *]; try omega)
def wantB (m : Msg) : Bool := emptyB m && decide ([m.stamp, m.rseq, m.rrep, m.kseq] = [0, 0, 0, 0])
theorem c92 (m : Msg) (a : Option Addr) (c : Nat) (w : World) : CallsTo Tryz.prog 124 [m.val a c] w fun v w' => v = .bool (wantB m) ∧ Grew w w' := by
  refine go_in (n := 11) (St.refl _ NoF) Tryz.func124 rfl rfl ?_
  repeat'(first|refine kv' ?_|apply jJ|refine jE' ?_|refine jp' ?_|(apply jc;kernel_rfl)|refine kg' ?_|refine kG' ?_|refine kB' fun _=>?_|refine kA' fun _=>?_|refine kK' fun _=>?_|refine kU' ?_|(apply kq;(·exact rfl);(·intro w1 h1;exact CallsTo.q (c91 m a c w1) h1))|((first|refine kR' ?_ ?_|refine kQ' ?_ ?_);all_goals(intro hc;try simp only[hcs]at hc;try(exfalso;first|contradiction|omega))))
  all_goals (
    (apply ret1; (· exact rfl); intro w' hS)
    refine ⟨congrArg Value.bool ?_, hS.toKeep⟩
    simp [wantB, *]; try omega)

structure Plc where
  ring : Int
  seq : Int
  rep : Int
  members : Int
def Plc.cells (p : Plc) : List Value := [.int .i64 p.ring, .int .i64 p.seq, .int .i64 p.rep, .int .i64 p.members]
def Plc.val (p : Plc) : Value := .agg p.cells.toArray
def plcB (p : Plc) : Bool := decide (0 ≤ p.ring ∧ p.ring ≤ 3 ∧ ¬ (p.seq = 0 ∧ p.rep = 0) ∧ 0 < p.seq ∧ p.seq ≤ 9007199254740991 ∧ 0 < p.rep ∧ p.rep ≤ 8 ∧ 0 < p.members ∧ p.members < 512 ∧ p.members % 2 = 0)

theorem andNot510_small : ∀ x : Nat, x < 512 → (andNotI .i64 (x : Int) 510 = 0 ↔ x % 2 = 0) := by decide +kernel
theorem andNot510 (x : Int) (h0 : 0 < x) (h1 : x ≤ 9223372036854775807) : andNotI .i64 x 510 = 0 ↔ x < 512 ∧ x % 2 = 0 := by
  obtain ⟨n, rfl⟩ : ∃ n : Nat, x = (n : Int) := ⟨x.toNat, by omega⟩
  by_cases hn : n < 512
  · rw [andNot510_small n hn]; omega
  · refine ⟨fun h => ?_, fun h => by omega⟩
    exfalso
    unfold andNotI at h
    have hlt : n < 2 ^ 64 := by omega
    have e1 : (BitVec.ofInt IntKind.i64.bits (n : Int)) = BitVec.ofNat 64 n := rfl
    have e2 : (BitVec.ofInt IntKind.i64.bits (510 : Int)) = BitVec.ofNat 64 510 := rfl
    rw [e1, e2] at h
    have h2 : IntKind.i64.wrap (((BitVec.ofNat 64 n &&& ~~~ BitVec.ofNat 64 510).toNat : Nat) : Int) = 0 := h
    have hle : (BitVec.ofNat 64 n &&& ~~~ BitVec.ofNat 64 510).toNat ≤ n := by
      rw [BitVec.toNat_and, BitVec.toNat_ofNat, Nat.mod_eq_of_lt hlt]; exact Nat.and_le_left
    rw [wrap_i64 (by omega) (by omega)] at h2
    have hz : (BitVec.ofNat 64 n &&& ~~~ BitVec.ofNat 64 510) = 0#64 := by
      apply BitVec.eq_of_toNat_eq
      have : (BitVec.ofNat 64 n &&& ~~~ BitVec.ofNat 64 510).toNat = 0 := by omega
      rw [this]; rfl
    have hx : BitVec.ofNat 64 n = BitVec.ofNat 64 n &&& BitVec.ofNat 64 510 := by
      apply BitVec.eq_of_getLsbD_eq
      intro i hi
      have := congrArg (fun v : BitVec 64 => v.getLsbD i) hz
      simp only [BitVec.getLsbD_and, BitVec.getLsbD_not, BitVec.getLsbD_zero, hi, decide_true, Bool.true_and] at this
      rw [BitVec.getLsbD_and]
      cases h1 : (BitVec.ofNat 64 n).getLsbD i <;> cases h2 : (BitVec.ofNat 64 510).getLsbD i <;> simp [h1, h2] at this ⊢
    have h3 := congrArg BitVec.toNat hx
    rw [BitVec.toNat_and, BitVec.toNat_ofNat, BitVec.toNat_ofNat, Nat.mod_eq_of_lt hlt] at h3
    have : n &&& (510 % 2 ^ 64) ≤ 510 := Nat.and_le_right
    omega

def i64 (x : Int) : Prop := -9223372036854775808 ≤ x ∧ x ≤ 9223372036854775807
theorem ringE_zero (s r : Int) : (ringE s r = 0) ↔ ((s = 0 ∧ r = 0) ∨ (0 < s ∧ s ≤ 9007199254740991 ∧ 0 < r ∧ r ≤ 8)) := by
  rw [ringE_eq]; split <;> simp_all
theorem c76 (p : Plc) (w : World) (hm : i64 p.members) : CallsTo Tryz.prog 134 [p.val] w fun v w' => v = .bool (plcB p) ∧ Grew w w' := by
  obtain ⟨rg, sq, rp, mb⟩ := p
  unfold plcB
  unfold i64 at hm
  simp only at hm
  refine go_in (n := 29) (St.refl _ NoF) Tryz.func134 rfl rfl ?_
  repeat'(first|refine kv' ?_|apply jJ|refine jE' ?_|refine jp' ?_|(apply jc;kernel_rfl)|refine kg' ?_|refine kG' ?_|refine kB' fun _=>?_|refine kA' fun _=>?_|refine kK' fun _=>?_|refine kU' ?_|(apply kq;(·exact rfl);(·intro w1 h1;exact CallsTo.q (c59 _ _ _ w1) h1))|(apply kq;(·exact rfl);(·intro w1 h1;exact CallsTo.q (c81 _ _ w1) h1))|((first|refine kR' ?_ ?_|refine kQ' ?_ ?_);all_goals(intro hc;try simp only[hcs]at hc;try(exfalso;first|contradiction|omega))))
  all_goals try simp only [withinB_iff, decide_eq_true_eq, decide_eq_false_iff_not, ringE_zero, List.cons.injEq, and_true] at *
  all_goals (
    (apply ret1; (· exact rfl); intro w' hS)
    refine ⟨congrArg Value.bool ?_, hS.toKeep⟩
    first
    | (rw [Bool.eq_iff_iff]; simp only [decide_eq_true_eq, Bool.false_eq_true, false_iff]; rw [andNot510 mb (by omega) (by omega)]; omega)
    | (rw [Bool.eq_iff_iff]; simp only [decide_eq_true_eq, Bool.false_eq_true, false_iff]; omega))
theorem c75 (p : Plc) (w : World) (hm : i64 p.members) : CallsTo Tryz.prog 133 [p.val] w fun v w' => v = .bool (!plcB p) ∧ Grew w w' := by
  refine go_in (n := 6) (St.refl _ NoF) Tryz.func133 rfl rfl ?_
  repeat'(first|refine kv' ?_|apply jJ|refine jE' ?_|refine jp' ?_|(apply jc;kernel_rfl)|refine kg' ?_|refine kG' ?_|refine kB' fun _=>?_|refine kA' fun _=>?_|refine kK' fun _=>?_|refine kU' ?_|(apply LR.qcall; (· exact rfl); (· intro w1 h1; exact CallsTo.q (c76 p w1 hm) h1))|((first|refine kR' ?_ ?_|refine kQ' ?_ ?_);all_goals(intro hc;try simp only[hcs]at hc;try(exfalso;first|contradiction|omega))))
  all_goals (
    (apply ret1; (· exact rfl); intro w' hS)
    exact ⟨rfl, hS.toKeep⟩)
theorem c79 (p : Plc) (w : World) (hm : i64 p.members) : CallsTo Tryz.prog 130 [p.val] w fun v w' => v = .bool (plcB p) ∧ Grew w w' := by
  obtain ⟨rg, sq, rp, mb⟩ := p
  unfold plcB
  unfold i64 at hm
  simp only at hm
  refine go_in (n := 39) (St.refl _ NoF) Tryz.func130 rfl rfl ?_
  repeat'(first|refine kv' ?_|apply jJ|refine jE' ?_|refine jp' ?_|(apply jc;kernel_rfl)|refine kg' ?_|refine kG' ?_|refine kB' fun _=>?_|refine kA' fun _=>?_|refine kK' fun _=>?_|refine kU' ?_|(apply kq;(·exact rfl);(·intro w1 h1;exact CallsTo.q (c97 _ _ w1) h1))|(apply LR.ev; (· apply Ev.rem; (· exact rfl); (· exact rfl); (· first | decide | omega)); (· exact rfl))|((first|refine kR' ?_ ?_|refine kQ' ?_ ?_);all_goals(intro hc;try simp only[hcs]at hc;try(exfalso;first|contradiction|omega))))
  all_goals try simp only [decide_eq_true_eq, decide_eq_false_iff_not, ringE_zero, List.cons.injEq, and_true] at *
  all_goals (
    (apply ret1; (· exact rfl); intro w' hS)
    refine ⟨congrArg Value.bool ?_, hS.toKeep⟩
    first
    | (rw [Bool.eq_iff_iff]; simp only [decide_eq_true_eq, Bool.false_eq_true, false_iff]; rw [Int.tmod_eq_emod_of_nonneg (by omega)]; omega)
    | (rw [Bool.eq_iff_iff]; simp only [decide_eq_true_eq, Bool.false_eq_true, false_iff]; omega))
end Go.Proofs.YtkolmkdbjagfcaaGreat

namespace Go.Proofs.YtkolmkdbjagfcaaGreat
open Go.Hb
attribute [local irreducible] LR CW At Ev thn blk finK noG again CallsTo
set_option maxRecDepth 100000

def pcs (ps : List Plc) : List Value := ps.flatMap Plc.cells
theorem pcs_length (ps : List Plc) : (pcs ps).length = ps.length * 4 := by
  induction ps with
  | nil => rfl
  | cons p r ih => simp only [pcs, List.flatMap_cons, List.length_append, List.length_cons] at ih ⊢; rw [ih]; simp [Plc.cells]; omega
theorem pcs_get : ∀ (ps : List Plc) (i j : Nat) (v : Value) (h : i < ps.length), (ps[i].cells)[j]? = some v → (pcs ps)[i * 4 + j]? = some v
  | [], i, j, v, h, _ => by simp at h
  | p :: r, 0, j, v, h, hj => by
    have hl : j < 4 := by have := (List.getElem?_eq_some_iff.1 hj).1; simpa [Plc.cells] using this
    simp only [List.getElem_cons_zero] at hj
    simp only [pcs, List.flatMap_cons, Nat.zero_mul, Nat.zero_add]
    rw [List.getElem?_append_left (by simpa [Plc.cells] using hl)]; exact hj
  | p :: r, i + 1, j, v, h, hj => by
    simp only [List.getElem_cons_succ] at hj
    have ih := pcs_get r i j v (by simpa using h) hj
    simp only [pcs, List.flatMap_cons] at ih ⊢
    have hl : (Plc.cells p).length = 4 := rfl
    rw [List.getElem?_append_right (by rw [hl]; omega), hl, show (i + 1) * 4 + j - 4 = i * 4 + j by omega]; exact ih
theorem rd_plc {w : World} {b o : Nat} {ps : List Plc} (h : Rd w (some ⟨b, o, none⟩) (pcs ps)) {i q : Nat} (hi : i < ps.length) (hq : q = i * 4) : ∀ j v, (ps[i].cells)[j]? = some v → w.cell? ((⟨b, o + q, none⟩ : Addr).add j) = some v := by
  intro j v hj
  subst hq
  rw [addr_add, Nat.add_assoc]
  exact h.cell (pcs_get ps i j v hi hj)
theorem plc_cell {w : World} {b o q i : Nat} {ps : List Plc} {v : Value} (h : Rd w (some ⟨b, o, none⟩) (pcs ps)) (hi : i < ps.length) (j : Nat) (hj : (ps[i].cells)[j]? = some v) (hq : q = o + i * 4 + j) : w.cell? ⟨b, q, none⟩ = some v := by
  subst hq
  rw [Nat.add_assoc]
  exact h.cell (pcs_get ps i j v hi hj)
theorem pcs_ne {ps : List Plc} {i : Nat} (h : i < ps.length) : pcs ps ≠ [] := fun e => by have := congrArg List.length e; rw [pcs_length] at this; simp only [List.length_nil] at this; omega
def plcsI (ps : List Plc) : Prop := ∀ p ∈ ps, i64 p.ring ∧ i64 p.seq ∧ i64 p.rep ∧ i64 p.members

theorem c102 (a : Option Addr) (c : Nat) (ps : List Plc) (w : World) (hr : Rd w a (pcs ps)) (hm : ps.length ≤ 281474976710656) (hi64 : plcsI ps) :
    CallsTo Tryz.prog 135 [.slice a ps.length c, .func (.func 133) #[] #[]] w fun v w' => (∃ r : Int, v = .int .i64 r ∧ (0 ≤ r ↔ (ps.any fun p => !plcB p) = true)) ∧ Grew w w' := by
  refine go_in (n := 19) (St.rd1 hr) Tryz.func135 rfl rfl ?_
  repeat'(first|refine kv' ?_|apply jJ|refine jE' ?_|refine jp' ?_|(apply jc;kernel_rfl)|refine kg' ?_|refine kG' ?_|refine kB' fun _=>?_|refine kA' fun _=>?_|refine kK' fun _=>?_|refine kU' ?_|((first|refine kR' ?_ ?_|refine kQ' ?_ ?_);all_goals(intro hc;try simp only[hcs]at hc;try(exfalso;first|contradiction|omega))))
  apply CW.loop [4, 5, 8, 9, 10, 11, 12, 13, 14, 15, 16, 17, 18] (fun i : Nat => i ≤ ps.length ∧ ((ps.take i).any fun p => !plcB p) = false) (fun i : Nat => [(8, Value.int .i64 i)]) (fun i => St w NoF [rdA a (pcs ps)]) (fun i => ps.length - i)
  · exact fun w' hw' => ⟨0, ⟨by omega, by simp⟩, ⟨rfl, trivial⟩, hw'⟩
  intro i g ⟨hi, heq⟩
  by_cases hlt : i < ps.length
  · obtain ⟨ba, oa, rfl⟩ := hr.form (pcs_ne hlt)
    have hpi := hi64 _ (List.getElem_mem hlt)
    repeat'(first|refine kv' ?_|apply jJ|refine jE' ?_|refine jp' ?_|(apply jc;kernel_rfl)|refine kg' ?_|refine kG' ?_|refine kB' fun _=>?_|refine kA' fun _=>?_|refine kK' fun _=>?_|refine kU' ?_|(apply idxX;(iterate 2 exact rfl);(iterate 2(first|omega|(dsimp only;omega)));exact rfl)|(apply LR.ev; (· apply Ev.load_agg_at (cs := ps[i].cells); (· exact rfl); (· exact rfl); (· intro w' hw'; exact rd_plc (hw'.rd_of (List.Mem.head _)) hlt (by simp))); (· exact rfl))|(apply addX;(iterate 2 exact rfl);(iterate 2(first|omega|(dsimp only;omega)));exact rfl)|((first|refine kR' ?_ ?_|refine kQ' ?_ ?_);all_goals(intro hc;try simp only[hcs]at hc;try(exfalso;first|contradiction|omega))))
    apply LR.qcall_fn (g := 133)
    · exact rfl
    · exact rfl
    · intro w1 h1
      have hq := CallsTo.q (c75 ps[i] w1 hpi.2.2.2) h1
      show CallsTo Tryz.prog 133 [ps[i].val] w1 _
      exact hq
    repeat'(first|refine kv' ?_|apply jJ|refine jE' ?_|refine jp' ?_|(apply jc;kernel_rfl)|refine kg' ?_|refine kG' ?_|refine kB' fun _=>?_|refine kA' fun _=>?_|refine kK' fun _=>?_|refine kU' ?_|(apply addX;(iterate 2 exact rfl);(iterate 2(first|omega|(dsimp only;omega)));exact rfl)|((first|refine kR' ?_ ?_|refine kQ' ?_ ?_);all_goals(intro hc;try simp only[hcs]at hc;try(exfalso;first|contradiction|omega))))
    · (apply ret1; (· exact rfl); intro w' hS)
      refine ⟨⟨i, rfl, ?_⟩, hS.toKeep⟩
      simp only [Int.natCast_nonneg, true_iff]
      rw [List.any_eq_true]
      exact ⟨ps[i], List.getElem_mem hlt, by simpa using hc⟩
    · apply At.again (i + 1) ⟨by omega, by rw [List.take_succ_eq_append_getElem hlt, List.any_append, heq]; simpa using hc⟩
      · (repeat (first | exact Out.refl _ _ | exact Out.mix | (apply Out.upd; (· exact rfl)) | (apply Out.updL; (· exact rfl)) | (apply Out.mixs; (· exact rfl))))
      · exact ⟨rfl, trivial⟩
      · exact fun w' hw' => hw'
      · omega
  · repeat'(first|refine kv' ?_|apply jJ|refine jE' ?_|refine jp' ?_|(apply jc;kernel_rfl)|refine kg' ?_|refine kG' ?_|refine kB' fun _=>?_|refine kA' fun _=>?_|refine kK' fun _=>?_|refine kU' ?_|((first|refine kR' ?_ ?_|refine kQ' ?_ ?_);all_goals(intro hc;try simp only[hcs]at hc;try(exfalso;first|contradiction|omega))))
    (apply ret1; (· exact rfl); intro w' hS)
    rw [List.take_of_length_le (by omega)] at heq
    refine ⟨⟨-1, rfl, ?_⟩, hS.toKeep⟩
    rw [heq]; simp

theorem c74 (a : Option Addr) (c : Nat) (ps : List Plc) (w : World) (hr : Rd w a (pcs ps)) (hm : ps.length ≤ 281474976710656) (hi64 : plcsI ps) :
    CallsTo Tryz.prog 132 [.slice a ps.length c, .func (.func 133) #[] #[]] w fun v w' => v = .bool (ps.any fun p => !plcB p) ∧ Grew w w' := by
  refine go_in (n := 9) (St.rd1 hr) Tryz.func132 rfl rfl ?_
  repeat'(first|refine kv' ?_|apply jJ|refine jE' ?_|refine jp' ?_|(apply jc;kernel_rfl)|refine kg' ?_|refine kG' ?_|refine kB' fun _=>?_|refine kA' fun _=>?_|refine kK' fun _=>?_|refine kU' ?_|((first|refine kR' ?_ ?_|refine kQ' ?_ ?_);all_goals(intro hc;try simp only[hcs]at hc;try(exfalso;first|contradiction|omega))))
  apply LR.call
  · exact rfl
  intro w1 h1
  refine (c102 a c ps w1 (h1.rd_of (List.Mem.head _)) hm hi64).mono ?_
  rintro v w2 ⟨⟨r, rfl, hiff⟩, hg⟩
  refine LR.back (h1.grew hg) ?_
  repeat'(first|refine kv' ?_|apply jJ|refine jE' ?_|refine jp' ?_|(apply jc;kernel_rfl)|refine kg' ?_|refine kG' ?_|refine kB' fun _=>?_|refine kA' fun _=>?_|refine kK' fun _=>?_|refine kU' ?_|((first|refine kR' ?_ ?_|refine kQ' ?_ ?_);all_goals(intro hc;try simp only[hcs]at hc;try(exfalso;first|contradiction|omega))))
  (apply ret1; (· exact rfl); intro w' hS)
  refine ⟨congrArg Value.bool ?_, hS.toKeep⟩
  rw [Bool.eq_iff_iff, decide_eq_true_eq]; exact hiff

def incr : Int → List Plc → Bool
  | _, [] => true
  | last, p :: r => decide (last < p.ring) && incr p.ring r
def lastR (l : Int) (ps : List Plc) : Int := (ps.getLast?.map Plc.ring).getD l
theorem lastR_snoc (l : Int) (ps : List Plc) (p : Plc) : lastR l (ps ++ [p]) = p.ring := by simp [lastR]
theorem incr_snoc : ∀ (ps : List Plc) (l : Int) (p : Plc), incr l (ps ++ [p]) = (incr l ps && decide (lastR l ps < p.ring))
  | [], l, p => by simp only [List.nil_append, incr, lastR, List.getLast?_nil, Option.map_none, Option.getD_none, Bool.and_true, Bool.true_and]; rfl
  | q :: r, l, p => by
    simp only [List.cons_append, incr, incr_snoc r q.ring p, Bool.and_assoc]
    congr 2
    unfold lastR
    cases r with
    | nil => rfl
    | cons x y =>
      simp only [List.getLast?_cons_cons]
      cases hx : (x :: y).getLast? with
      | none => simp at hx
      | some z => rfl
theorem incr_append (ps qs : List Plc) (l : Int) (h : incr l (ps ++ qs) = true) : incr l ps = true := by
  induction ps generalizing l with
  | nil => rfl
  | cons p r ih =>
    simp only [List.cons_append, incr, Bool.and_eq_true] at h ⊢
    exact ⟨h.1, ih _ h.2⟩
def plcNums (p : Plc) : List Int := [p.ring, p.seq, p.rep, p.members]
def plcsBytes (ps : List Plc) : List Int := enc ps.length ++ ps.flatMap fun p => encs (plcNums p)
def charts (ps : List Plc) : List Int × Int :=
  if 4 < ps.length then ([], 5) else if (ps.any fun p => !plcB p) = true then ([], 2) else if incr (-1) ps = false then ([], 2) else (plcsBytes ps, 0)
theorem plcNums_ok {p : Plc} (h : plcB p = true) : ∀ x ∈ plcNums p, okN x := by
  unfold plcB at h
  rw [decide_eq_true_eq] at h
  intro x hx
  simp only [plcNums, List.mem_cons, List.not_mem_nil, or_false] at hx
  unfold okN
  rcases hx with rfl | rfl | rfl | rfl <;> omega
theorem any_false {ps : List Plc} (h : (ps.any fun p => !plcB p) = false) : ∀ p ∈ ps, plcB p = true := by
  intro p hp
  cases hx : plcB p with
  | true => rfl
  | false => rw [List.any_eq_false] at h; have := h p hp; simp [hx] at this

set_option maxHeartbeats 1000000 in
theorem c28 (a : Option Addr) (c : Nat) (ps : List Plc) (w : World) (hr : Rd w a (pcs ps)) (hm : ps.length ≤ 281474976710656) (hi64 : plcsI ps) :
    CallsTo Tryz.prog 131 [.slice a ps.length c] w fun v w' => ∃ a2 c2, v = .tuple [.slice a2 (charts ps).1.length c2, .int .i64 (charts ps).2].toArray ∧ NewSl w w' (.slice a2 (charts ps).1.length c2) 5 1 (charts ps).1.length (bv (charts ps).1) := by
  refine go_in (n := 55) (St.rd1 hr) Tryz.func131 rfl rfl ?_
  have nils : ∀ w', Grew w w' → NewSl w w' (.slice none 0 0) 5 1 0 (bv []) := fun w' hg => ⟨hg, World.ownsRow_nil _ _ _ _⟩
  repeat'(first|refine kv' ?_|apply jJ|refine jE' ?_|refine jp' ?_|(apply jc;kernel_rfl)|refine kg' ?_|refine kG' ?_|refine kB' fun _=>?_|refine kA' fun _=>?_|refine kK' fun _=>?_|refine kU' ?_|(apply LR.qcall; (· exact rfl); (· intro w1 h1; exact CallsTo.q (c74 a c ps w1 (h1.rd_of (List.Mem.head _)) hm hi64) h1))|((first|refine kR' ?_ ?_|refine kQ' ?_ ?_);all_goals(intro hc;try simp only[hcs]at hc;try(exfalso;first|contradiction|omega))))
  · (apply ret2; (· exact rfl); intro w' hS)
    have e : charts ps = ([], 5) := by unfold charts; rw [if_pos (by omega)]
    rw [e]
    exact ⟨none, 0, rfl, nils w' hS.toKeep⟩
  · (apply ret2; (· exact rfl); intro w' hS)
    have e : charts ps = ([], 2) := by unfold charts; rw [if_neg (by omega), if_pos hc]
    rw [e]
    exact ⟨none, 0, rfl, nils w' hS.toKeep⟩
  rename _ => hcp
  have hany := any_false hcp
  apply LR.call
  · exact rfl
  intro w1 h1
  refine (c53 w1).mono ?_
  rintro v w2 ⟨bw, rfl, hn⟩
  refine LR.back (h1.got hn (wrA_dep _ _ _ _)) ?_
  clear hn h1
  repeat'(first|refine kv' ?_|apply jJ|refine jE' ?_|refine jp' ?_|(apply jc;kernel_rfl)|refine kg' ?_|refine kG' ?_|refine kB' fun _=>?_|refine kA' fun _=>?_|refine kK' fun _=>?_|refine kU' ?_|((first|refine kR' ?_ ?_|refine kQ' ?_ ?_);all_goals(intro hc;try simp only[hcs]at hc;try(exfalso;first|contradiction|omega))))
  repeat'(first|refine kv' ?_|apply jJ|refine jE' ?_|refine jp' ?_|(apply jc;kernel_rfl)|refine kg' ?_|refine kG' ?_|refine kB' fun _=>?_|refine kA' fun _=>?_|refine kK' fun _=>?_|refine kU' ?_|(apply LR.call; (· exact rfl); (intro w1 h1; refine (c54 bw none _ 0 _ [] [(ps.length : Int)] w1 (h1.holds _ (List.Mem.tail _ (List.Mem.head _))) (h1.rd_of_blk (List.Mem.head _)) (fun k hk hk2 => h1.apart (List.Mem.head _) rfl k (by obtain ⟨_, ad, e, rfl⟩ := hk; cases e; rfl) hk2) (by simp) (by simp) (by simp [okN]; omega)).mono ?_; rintro v w2 ⟨a2, c2, rfl, st⟩; refine LR.back (h1.did (Sel.tail _ (Sel.head _ _ _)) rfl st (wrA_dep _ _ _ _)) ?_; clear st h1))|((first|refine kR' ?_ ?_|refine kQ' ?_ ?_);all_goals(intro hc;try simp only[hcs]at hc;try(exfalso;first|contradiction|omega))))
  have key : ∀ i, i ≤ ps.length → (enc ps.length ++ (ps.take i).flatMap fun p => encs (plcNums p)).length ≤ 9 + 36 * ps.length := by
    intro i hi
    have h1 : (enc ps.length).length ≤ 9 := encF_len 8 _
    have h2 : ∀ l : List Plc, (l.flatMap fun p => encs (plcNums p)).length ≤ 36 * l.length := by
      intro l
      induction l with
      | nil => simp
      | cons p r ih =>
        have := encs_len (plcNums p)
        simp only [List.flatMap_cons, List.length_append, List.length_cons]
        have e : (plcNums p).length = 4 := rfl
        omega
    have h3 := h2 (ps.take i)
    have h4 : (ps.take i).length ≤ ps.length := by simp; omega
    simp only [List.length_append]; omega
  apply CW.loop [2, 3, 5, 6, 8, 24, 25, 26, 27, 28, 29, 30, 31, 32, 33, 34, 35, 36, 37, 38, 39, 40, 41, 42, 43, 44, 45, 46, 47, 48, 49] (fun s : Nat × Option Addr × Nat => s.1 ≤ ps.length ∧ incr (-1) (ps.take s.1) = true) (fun s => [(24, Value.int .i64 (s.1 : Int)), (5, .int .i64 (lastR (-1) (ps.take s.1))), (6, .int .i64 0)])
    (fun s => St w NoF [wrA 112 [.bool true] bw s.2.1 s.2.2 (enc ps.length ++ (ps.take s.1).flatMap fun p => encs (plcNums p)), rdA a (pcs ps)]) (fun s => ps.length - s.1)
  · exact fun w' hw' => ⟨(0, a2, c2), ⟨by simp, rfl⟩, ⟨rfl, rfl, rfl, trivial⟩, hw'.tail1.cast (by simp [encs])⟩
  rintro ⟨i, a1, c1⟩ g ⟨hi, hinc⟩
  simp only at hi hinc ⊢
  by_cases hlt : i < ps.length
  · obtain ⟨ba, oa, rfl⟩ := hr.form (pcs_ne hlt)
    have hk := key i hi
    have hb := hany _ (List.getElem_mem hlt)
    have hok := plcNums_ok hb
    repeat'(first|refine kv' ?_|apply jJ|refine jE' ?_|refine jp' ?_|(apply jc;kernel_rfl)|refine kg' ?_|refine kG' ?_|refine kB' fun _=>?_|refine kA' fun _=>?_|refine kK' fun _=>?_|refine kU' ?_|(apply idxX;(iterate 2 exact rfl);(iterate 2(first|omega|(dsimp only;omega)));exact rfl)|(apply LR.ev; (· apply Ev.load_agg_at (cs := ps[i].cells); (· exact rfl); (· exact rfl); (· intro w' hw'; exact rd_plc (hw'.rd_of (List.Mem.tail _ (List.Mem.head _))) hlt (by simp))); (· exact rfl))|(apply addX;(iterate 2 exact rfl);(iterate 2(first|omega|(dsimp only;omega)));exact rfl)|(apply LR.call; (· exact rfl); (intro w1 h1; refine (c54 bw a1 _ c1 _ _ (plcNums ps[i]) w1 (h1.holds _ (List.Mem.tail _ (List.Mem.tail _ (List.Mem.head _)))) (h1.rd_of_blk (List.Mem.head _)) (fun k hk hk2 => h1.apart (List.Mem.tail _ (List.Mem.head _)) rfl k (by obtain ⟨_, ad, e, rfl⟩ := hk; cases e; rfl) hk2) (by omega) (by simp [plcNums]) hok).mono ?_; rintro v w2 ⟨a2, c2, rfl, st⟩; refine LR.back (h1.did (Sel.tail _ (Sel.tail _ (Sel.head _ _ _))) rfl st (wrA_dep _ _ _ _)) ?_; clear st h1))|((first|refine kR' ?_ ?_|refine kQ' ?_ ?_);all_goals(intro hc;try simp only[hcs]at hc;try(exfalso;first|contradiction|omega))))
    · (apply ret2; (· exact rfl); intro w' hS)
      have e : charts ps = ([], 2) := by
        unfold charts
        rw [if_neg (by omega), if_neg (by simp [hcp]), if_pos ?_]
        cases hx : incr (-1) ps with
        | false => rfl
        | true =>
          have h1 := incr_append (ps.take (i + 1)) (ps.drop (i + 1)) (-1) (by rw [List.take_append_drop]; exact hx)
          rw [List.take_succ_eq_append_getElem hlt, incr_snoc, hinc] at h1
          simp at h1; omega
      rw [e]
      exact ⟨none, 0, rfl, nils w' hS.toKeep⟩
    · apply At.again (i + 1, a2, c2)
      · refine ⟨by show i + 1 ≤ _; omega, ?_⟩
        show incr (-1) (ps.take (i + 1)) = true
        rw [List.take_succ_eq_append_getElem hlt, incr_snoc, hinc]
        simpa using hc
      · (repeat (first | exact Out.refl _ _ | exact Out.mix | (apply Out.upd; (· exact rfl)) | (apply Out.updL; (· exact rfl)) | (apply Out.mixs; (· exact rfl))))
      · refine ⟨rfl, ?_, rfl, trivial⟩
        show Value.int .i64 ps[i].ring = .int .i64 (lastR (-1) (ps.take (i + 1)))
        rw [List.take_succ_eq_append_getElem hlt, lastR_snoc]
      · intro w' hw'
        exact hw'.tail1.tail1.cast (by simp only [List.take_succ_eq_append_getElem hlt, List.flatMap_append, List.flatMap_cons, List.flatMap_nil, List.append_nil, List.append_assoc])
      · show ps.length - (i + 1) < ps.length - i; omega
  · have hk := key i hi
    rw [List.take_of_length_le (by omega)] at hk hinc ⊢
    repeat'(first|refine kv' ?_|apply jJ|refine jE' ?_|refine jp' ?_|(apply jc;kernel_rfl)|refine kg' ?_|refine kG' ?_|refine kB' fun _=>?_|refine kA' fun _=>?_|refine kK' fun _=>?_|refine kU' ?_|((first|refine kR' ?_ ?_|refine kQ' ?_ ?_);all_goals(intro hc;try simp only[hcs]at hc;try(exfalso;first|contradiction|omega))))
    apply LR.call
    · exact rfl
    intro w1 h1
    refine (c56 bw a1 c1 _ w1 (h1.holds _ (List.Mem.head _)) (by omega)).mono ?_
    rintro v w2 ⟨a2, c2, rfl, hn⟩
    refine LR.back (h1.newSl hn) ?_
    repeat'(first|refine kv' ?_|apply jJ|refine jE' ?_|refine jp' ?_|(apply jc;kernel_rfl)|refine kg' ?_|refine kG' ?_|refine kB' fun _=>?_|refine kA' fun _=>?_|refine kK' fun _=>?_|refine kU' ?_|((first|refine kR' ?_ ?_|refine kQ' ?_ ?_);all_goals(intro hc;try simp only[hcs]at hc;try(exfalso;first|contradiction|omega))))
    (apply ret2; (· exact rfl); intro w' hS)
    have e : charts ps = (plcsBytes ps, 0) := by
      unfold charts
      rw [if_neg (by omega), if_neg (by simp [hcp]), if_neg (by simp [hinc])]
    rw [e]
    exact ⟨a2, c2, rfl, hS.toNew (List.Mem.head _)⟩

theorem plcsLen (ps : List Plc) : ∀ i, i ≤ ps.length → (enc ps.length ++ (ps.take i).flatMap fun p => encs (plcNums p)).length ≤ 9 + 36 * ps.length := by
  intro i hi
  have h1 : (enc ps.length).length ≤ 9 := encF_len 8 _
  have h2 : ∀ l : List Plc, (l.flatMap fun p => encs (plcNums p)).length ≤ 36 * l.length := by
    intro l
    induction l with
    | nil => simp
    | cons p r ih =>
      have := encs_len (plcNums p)
      simp only [List.flatMap_cons, List.length_append, List.length_cons]
      have e : (plcNums p).length = 4 := rfl
      omega
  have h3 := h2 (ps.take i)
  have h4 : (ps.take i).length ≤ ps.length := by simp; omega
  simp only [List.length_append]; omega
theorem incr_of_any {ps : List Plc} (l : Int) (h : ∃ p ∈ ps, plcB p = false) : (ps.any fun p => !plcB p) = true := by
  rw [List.any_eq_true]
  obtain ⟨p, hp, hb⟩ := h
  exact ⟨p, hp, by simp [hb]⟩
theorem charts_bad {ps : List Plc} (h4 : ps.length ≤ 4) {i : Nat} (hlt : i < ps.length) (h : plcB ps[i] = false ∨ ps[i].ring ≤ lastR (-1) (ps.take i)) : charts ps = ([], 2) := by
  unfold charts
  rw [if_neg (by omega)]
  by_cases ha : (ps.any fun p => !plcB p) = true
  · rw [if_pos ha]
  · rw [if_neg ha, if_pos ?_]
    rcases h with h | h
    · exact (ha (incr_of_any 0 ⟨_, List.getElem_mem hlt, h⟩)).elim
    · cases hx : incr (-1) ps with
      | false => rfl
      | true =>
        have h1 := incr_append (ps.take (i + 1)) (ps.drop (i + 1)) (-1) (by rw [List.take_append_drop]; exact hx)
        rw [List.take_succ_eq_append_getElem hlt, incr_snoc, Bool.and_eq_true] at h1
        have := h1.2
        simp at this; omega
theorem lastR_prev {ps : List Plc} {i : Nat} (l : Int) (h : i < ps.length) : lastR l (ps.take (i + 1)) = ps[i].ring := by
  rw [List.take_succ_eq_append_getElem h, lastR_snoc]
theorem plc_enc {p : Plc} (h : plcB p = true) (x : Int) (hx : x ∈ plcNums p) : putE x = 0 ∧ putL x = enc x.toNat ∧ (enc x.toNat).length ≤ 9 := by
  have := plcNums_ok h x hx
  exact ⟨putE_ok this, putL_ok this, encF_len 8 _⟩

theorem putL_len9 (x : Int) : (putL x).length ≤ 9 := by
  unfold putL
  split
  · exact encF_len 8 _
  · simp

set_option maxHeartbeats 1000000 in
theorem c29 (a : Option Addr) (c : Nat) (ps : List Plc) (w : World) (hr : Rd w a (pcs ps)) (hm : ps.length ≤ 281474976710656) (hi64 : plcsI ps) :
    CallsTo Tryz.prog 127 [.slice a ps.length c] w fun v w' => ∃ a2 c2, v = .tuple [.slice a2 (charts ps).1.length c2, .int .i64 (charts ps).2].toArray ∧ NewSl w w' (.slice a2 (charts ps).1.length c2) 5 1 (charts ps).1.length (bv (charts ps).1) := by
  refine go_in (n := 76) (St.rd1 hr) Tryz.func127 rfl rfl ?_
  have nils : ∀ w', Grew w w' → NewSl w w' (.slice none 0 0) 5 1 0 (bv []) := fun w' hg => ⟨hg, World.ownsRow_nil _ _ _ _⟩
  repeat'(first|refine kv' ?_|apply jJ|refine jE' ?_|refine jp' ?_|(apply jc;kernel_rfl)|refine kg' ?_|refine kG' ?_|refine kB' fun _=>?_|refine kA' fun _=>?_|refine kK' fun _=>?_|refine kU' ?_|((first|refine kR' ?_ ?_|refine kQ' ?_ ?_);all_goals(intro hc;try simp only[hcs]at hc;try(exfalso;first|contradiction|omega))))
  · (apply ret2; (· exact rfl); intro w' hS)
    have e : charts ps = ([], 5) := by unfold charts; rw [if_pos (by omega)]
    rw [e]
    exact ⟨none, 0, rfl, nils w' hS.toKeep⟩
  rename _ => h4
  have h4' : ps.length ≤ 4 := by omega
  apply LR.call
  · exact rfl
  intro w1 h1
  refine (c77 w1).mono ?_
  rintro v w2 ⟨bw, rfl, hn⟩
  refine LR.back (wr_open (h1.got hn (wrA_dep _ _ _ _))) ?_
  clear hn h1
  have e1 : putL (ps.length : Int) = enc ps.length := by rw [putL_ok (by unfold okN; omega)]; rfl
  repeat'(first|refine kv' ?_|apply jJ|refine jE' ?_|refine jp' ?_|(apply jc;kernel_rfl)|refine kg' ?_|refine kG' ?_|refine kB' fun _=>?_|refine kA' fun _=>?_|refine kK' fun _=>?_|refine kU' ?_|(apply LR.call; (· exact rfl); (intro w1 h1; refine (c78 _ _ _ _ _ w1 (wr_hold h1) (by first | omega | (simp; done) | (simp only [List.length_append]; omega))).mono ?_; rintro v w2 ⟨a2, c2, rfl, st⟩; refine LR.back (wr_did h1 st) ?_; clear st h1))|((first|refine kR' ?_ ?_|refine kQ' ?_ ?_);all_goals(intro hc;try simp only[hcs]at hc;try(exfalso;first|contradiction|omega))))
  rw [e1]
  apply CW.loop [2, 3, 5, 14, 15, 16, 17, 18, 19, 20, 21, 22, 23, 24, 25, 26, 27, 28, 29, 30, 31, 32, 33, 34, 35, 36, 37, 38, 39, 40, 41, 42, 43, 44, 45, 46, 47, 48, 49, 50, 51, 52, 53, 54, 55, 56, 57, 58, 59, 60, 61, 62, 63, 64, 65, 66, 67, 68, 69, 70, 71, 72, 73] (fun s : Nat × Option Addr × Nat => s.1 ≤ ps.length ∧ (∀ p ∈ ps.take s.1, plcB p = true) ∧ incr (-1) (ps.take s.1) = true) (fun s => [(5, Value.int .i64 (s.1 : Int))])
    (fun s => St w NoF [wr1 131 [] bw s.2.1 s.2.2 (enc ps.length ++ (ps.take s.1).flatMap fun p => encs (plcNums p)), wr2 s.2.1 s.2.2 (enc ps.length ++ (ps.take s.1).flatMap fun p => encs (plcNums p)), rdA a (pcs ps)]) (fun s => ps.length - s.1)
  · exact fun w' hw' => ⟨(0, a2, c2), ⟨by simp, by simp, rfl⟩, ⟨rfl, trivial⟩, hw'.cast (by simp [encs])⟩
  rintro ⟨i, a1, c1⟩ g ⟨hi, hall, hinc⟩
  simp only at hi hinc hall ⊢
  by_cases hlt : i < ps.length
  · obtain ⟨ba, oa, rfl⟩ := hr.form (pcs_ne hlt)
    have hk := plcsLen ps i hi
    have hp64 := hi64 _ (List.getElem_mem hlt)
    have hk' := hk
    rw [List.length_append] at hk'
    have hl1 := putL_len9 ps[i].ring
    have hl2 := putL_len9 ps[i].seq
    have hl3 := putL_len9 ps[i].rep
    have hl4 := putL_len9 ps[i].members
    repeat'(first|refine kv' ?_|apply jJ|refine jE' ?_|refine jp' ?_|(apply jc;kernel_rfl)|refine kg' ?_|refine kG' ?_|refine kB' fun _=>?_|refine kA' fun _=>?_|refine kK' fun _=>?_|refine kU' ?_|(apply idxX;(iterate 2 exact rfl);(iterate 2(first|omega|(dsimp only;omega)));exact rfl)|(apply subX;(iterate 2 exact rfl);(iterate 2(first|omega|(dsimp only;omega)));exact rfl)|(apply LR.ev; (· apply Ev.load_agg_at (cs := ps[i].cells); (· exact rfl); (· exact rfl); (· intro w' hw'; exact rd_plc (hw'.rd_of (List.Mem.tail _ (List.Mem.tail _ (List.Mem.head _)))) hlt (by simp))); (· exact rfl))|(apply LR.qcall; (· exact rfl); (· intro w1 h1; have hq := CallsTo.q (c79 ps[i] w1 hp64.2.2.2) h1; show CallsTo Tryz.prog 130 [ps[i].val] w1 _; exact hq))|(apply LR.ev; (· apply Ev.load; (· exact rfl); (· intro w' hw'; first | exact plc_cell (i := i) (hw'.rd_of (List.Mem.tail _ (List.Mem.tail _ (List.Mem.head _)))) hlt 0 rfl (by omega) | exact plc_cell (i := i) (hw'.rd_of (List.Mem.tail _ (List.Mem.tail _ (List.Mem.head _)))) hlt 1 rfl (by omega) | exact plc_cell (i := i) (hw'.rd_of (List.Mem.tail _ (List.Mem.tail _ (List.Mem.head _)))) hlt 2 rfl (by omega) | exact plc_cell (i := i) (hw'.rd_of (List.Mem.tail _ (List.Mem.tail _ (List.Mem.head _)))) hlt 3 rfl (by omega) | exact plc_cell (i := i - 1) (hw'.rd_of (List.Mem.tail _ (List.Mem.tail _ (List.Mem.head _)))) (by omega) 0 rfl (by omega))); (· exact rfl))|(apply LR.call; (· exact rfl); (intro w1 h1; refine (c78 _ _ _ _ _ w1 (wr_hold h1) (by first | omega | (simp; done) | (simp only [List.length_append]; omega))).mono ?_; rintro v w2 ⟨a2, c2, rfl, st⟩; refine LR.back (wr_did h1 st) ?_; clear st h1))|(apply addX;(iterate 2 exact rfl);(iterate 2(first|omega|(dsimp only;omega)));exact rfl)|((first|refine kR' ?_ ?_|refine kQ' ?_ ?_);all_goals(intro hc;try simp only[hcs]at hc;try(exfalso;first|contradiction|omega))))
    · (apply ret2; (· exact rfl); intro w' hS)
      rw [charts_bad h4' hlt (.inl hc)]
      exact ⟨none, 0, rfl, nils w' hS.toKeep⟩
    · (apply ret2; (· exact rfl); intro w' hS)
      obtain ⟨k, rfl⟩ : ∃ k, i = k + 1 := ⟨i - 1, by omega⟩
      rw [charts_bad h4' hlt (.inr (by rw [lastR_prev _ (by omega)]; exact hc))]
      exact ⟨none, 0, rfl, nils w' hS.toKeep⟩
    all_goals
      have hb : plcB ps[i] = true := by assumption
      apply At.again (i + 1, a2, c2)
      · refine ⟨by show i + 1 ≤ _; omega, ?_, ?_⟩
        · show ∀ p ∈ ps.take (i + 1), plcB p = true
          rw [List.take_succ_eq_append_getElem hlt]
          intro p hp
          rcases List.mem_append.1 hp with hp | hp
          · exact hall p hp
          · simp at hp; subst hp; exact hb
        · show incr (-1) (ps.take (i + 1)) = true
          rw [List.take_succ_eq_append_getElem hlt, incr_snoc, hinc, Bool.true_and, decide_eq_true_eq]
          rcases Nat.eq_zero_or_pos i with h0 | h0
          · subst h0
            have := plcNums_ok hb ps[0].ring (by simp [plcNums])
            simp [lastR]; unfold okN at this; omega
          · obtain ⟨k, rfl⟩ : ∃ k, i = k + 1 := ⟨i - 1, by omega⟩
            rw [lastR_prev _ (by omega)]
            first | assumption | (exfalso; omega)
      · (repeat (first | exact Out.refl _ _ | exact Out.mix | (apply Out.upd; (· exact rfl)) | (apply Out.updL; (· exact rfl)) | (apply Out.mixs; (· exact rfl))))
      · exact ⟨rfl, trivial⟩
      · intro w' hw'
        refine hw'.cast ?_
        have q1 := (plc_enc hb ps[i].ring (by simp [plcNums])).2.1
        have q2 := (plc_enc hb ps[i].seq (by simp [plcNums])).2.1
        have q3 := (plc_enc hb ps[i].rep (by simp [plcNums])).2.1
        have q4 := (plc_enc hb ps[i].members (by simp [plcNums])).2.1
        simp only [q1, q2, q3, q4, List.take_succ_eq_append_getElem hlt, List.flatMap_append, List.flatMap_cons, List.flatMap_nil, List.append_nil, List.append_assoc, encs, plcNums]
      · show ps.length - (i + 1) < ps.length - i; omega
  · have hk := plcsLen ps i hi
    rw [List.take_of_length_le (by omega)] at hk hinc hall ⊢
    repeat'(first|refine kv' ?_|apply jJ|refine jE' ?_|refine jp' ?_|(apply jc;kernel_rfl)|refine kg' ?_|refine kG' ?_|refine kB' fun _=>?_|refine kA' fun _=>?_|refine kK' fun _=>?_|refine kU' ?_|((first|refine kR' ?_ ?_|refine kQ' ?_ ?_);all_goals(intro hc;try simp only[hcs]at hc;try(exfalso;first|contradiction|omega))))
    apply LR.call
    · exact rfl
    intro w1 h1
    refine (c80 bw a1 c1 _ w1 (wr_hold h1) (by omega)).mono ?_
    rintro v w2 ⟨a2, c2, rfl, hn⟩
    refine LR.back (h1.newSl hn) ?_
    repeat'(first|refine kv' ?_|apply jJ|refine jE' ?_|refine jp' ?_|(apply jc;kernel_rfl)|refine kg' ?_|refine kG' ?_|refine kB' fun _=>?_|refine kA' fun _=>?_|refine kK' fun _=>?_|refine kU' ?_|((first|refine kR' ?_ ?_|refine kQ' ?_ ?_);all_goals(intro hc;try simp only[hcs]at hc;try(exfalso;first|contradiction|omega))))
    (apply ret2; (· exact rfl); intro w' hS)
    have e : charts ps = (plcsBytes ps, 0) := by
      unfold charts
      rw [if_neg (by omega), if_neg ?_, if_neg (by simp [hinc])]
      intro hx
      rw [List.any_eq_true] at hx
      obtain ⟨p, hp, hx⟩ := hx
      simp [hall p hp] at hx
    rw [e]
    exact ⟨a2, c2, rfl, hS.toNew (List.Mem.head _)⟩
end Go.Proofs.YtkolmkdbjagfcaaGreat

namespace Go.Proofs.YtkolmkdbjagfcaaGreat
open Go.Hb
attribute [local irreducible] LR CW At Ev thn blk finK noG again CallsTo DW QL dnext
set_option maxRecDepth 100000

def decs : Nat → List Int → List Int × Int × List Int
  | 0, l => ([], 0, l)
  | n + 1, l => if (dec l).2.2 ≠ 0 then ([], (dec l).2.2, l.drop (dec l).2.1) else
    ((((dec l).1 : Nat) : Int) :: (decs n (l.drop (dec l).2.1)).1, (decs n (l.drop (dec l).2.1)).2)
theorem decs_len : ∀ n l, (decs n l).1.length ≤ n ∧ ((decs n l).2.1 = 0 → (decs n l).1.length = n)
  | 0, l => by simp [decs]
  | n + 1, l => by
    unfold decs
    split
    · rename_i h; simp [h]
    · have := decs_len n (l.drop (dec l).2.1); simp; omega
theorem Byt.drop {l : List Int} (h : Byt l) (n : Nat) : Byt (l.drop n) := fun b hb => h b (List.mem_of_mem_drop hb)
theorem decs_rest : ∀ n l, ∃ k, (decs n l).2.2 = l.drop k
  | 0, l => ⟨0, by simp [decs]⟩
  | n + 1, l => by
    unfold decs
    split
    · exact ⟨_, rfl⟩
    · obtain ⟨k, hk⟩ := decs_rest n (l.drop (dec l).2.1)
      exact ⟨(dec l).2.1 + k, by simp only [hk, List.drop_drop]⟩

def pv (l : List Addr) : List Value := l.map fun x => .pointer (some x)
@[simp] theorem pv_length (l : List Addr) : (pv l).length = l.length := by simp [pv]
theorem pv_at {l : List Addr} {q i : Nat} (hq : q = i) (h : i < l.length) : (pv l)[q]? = some (.pointer (some (l[i]'h))) := by subst hq; simp [pv, h]

set_option maxHeartbeats 1000000 in
theorem c66 (br : Nat) (a : Option Addr) (c : Nat) (l : List Int) (b : Option Addr) (cb : Nat) (ads : List Addr) (T : List Int → Asrt) (w : World) (h : (both (rrA 142 [.bool true] br a c l) (T [])).holds w)
    (hr : Rd w b (pv ads)) (hsep : ∀ k, rdFoot b (pv ads) k → ¬ (both (rrA 142 [.bool true] br a c l) (T [])).foot k)
    (hT : ∀ vs x, (hi : vs.length < ads.length) → Stores Tryz.prog 3 ads[vs.length] (.int .i64 x) (T vs) (T (vs ++ [x]))) (hTe : ∀ vs, (T vs).excl = true) (hTd : ∀ vs, (T vs).dep)
    (hb : Byt l) (hm : l.length ≤ 281474976710656) (hlen : ads.length ≤ 100) :
    CallsTo Tryz.prog 121 [.pointer (some ⟨br, 0, none⟩), .slice b ads.length cb] w fun v w' => ∃ a' c', v = .int .i64 (decs ads.length l).2.1 ∧ Step (both (rrA 142 [.bool true] br a c l) (T [])) (both (rrA 142 [.bool true] br a' c' (decs ads.length l).2.2) (T (decs ads.length l).1)) w w' := by
  have dr : ∀ a c l, (rrA 142 [.bool true] br a c l).dep := fun a c l => rrA_dep _ _ _ _ _ _
  refine go_in (n := 27) (St.part ((St.one (a := both _ _) h h.2.2.2 (both_dep (dr _ _ _) (hTd _))).addRd hr hsep |>.swap) (dr _ _ _) (hTd _)) Tryz.func121 rfl rfl ?_
  repeat'(first|refine kv' ?_|apply jJ|refine jE' ?_|refine jp' ?_|(apply jc;kernel_rfl)|refine kg' ?_|refine kG' ?_|refine kB' fun _=>?_|refine kA' fun _=>?_|refine kK' fun _=>?_|refine kU' ?_|((first|refine kR' ?_ ?_|refine kQ' ?_ ?_);all_goals(intro hc;try simp only[hcs]at hc;try(exfalso;first|contradiction|omega))))
  apply CW.loop [4, 6, 7, 8, 11, 12, 13, 14, 15, 16, 17, 18, 19, 20, 21, 22, 23, 24, 25, 26] (fun s : Nat × Option Addr × Nat × List Int × List Int => s.1 ≤ ads.length ∧ s.2.2.2.1.length = s.1 ∧ (∃ k, s.2.2.2.2 = l.drop k) ∧ decs ads.length l = (s.2.2.2.1 ++ (decs (ads.length - s.1) s.2.2.2.2).1, (decs (ads.length - s.1) s.2.2.2.2).2)) (fun s => [(11, Value.int .i64 (s.1 : Int))])
    (fun s => St w (both (rrA 142 [.bool true] br a c l) (T [])).foot [rrA 142 [.bool true] br s.2.1 s.2.2.1 s.2.2.2.2, T s.2.2.2.1, rdA b (pv ads)]) (fun s => ads.length - s.1)
  · exact fun w' hw' => ⟨(0, a, c, [], l), ⟨by simp, rfl, ⟨0, rfl⟩, by simp⟩, ⟨rfl, trivial⟩, hw'⟩
  rintro ⟨i, a1, c1, vs, l1⟩ g ⟨hi, hvs, ⟨k, hk⟩, hdec⟩
  simp only at hi hvs hk hdec ⊢
  have hb1 : Byt l1 := hk ▸ hb.drop k
  have hm1 : l1.length ≤ 281474976710656 := by rw [hk]; simp; omega
  by_cases hlt : i < ads.length
  · obtain ⟨bb, ob, rfl⟩ := hr.form (fun e => by have := congrArg List.length e; simp at this; subst this; simp at hlt)
    obtain ⟨q, hq⟩ : ∃ q, ads.length - i = q + 1 := ⟨ads.length - i - 1, by omega⟩
    rw [hq] at hdec
    have hst : ∀ x, Stores Tryz.prog 3 ads[i] (.int .i64 x) (T vs) (T (vs ++ [x])) := by intro x; have := hT vs x (by omega); simpa only [hvs] using this
    repeat'(first|refine kv' ?_|apply jJ|refine jE' ?_|refine jp' ?_|(apply jc;kernel_rfl)|refine kg' ?_|refine kG' ?_|refine kB' fun _=>?_|refine kA' fun _=>?_|refine kK' fun _=>?_|refine kU' ?_|(apply idxX;(iterate 2 exact rfl);(iterate 2(first|omega|(dsimp only;omega)));exact rfl)|(apply LR.ev; (· apply Ev.load_rd; (· exact rfl); (· repeat (first | exact mH _ _ | apply mT)); (· exact pv_at (i := i) (by simp) (by omega))); (· exact rfl))|(apply LR.call; (· exact rfl); (intro w1 h1; refine (c73 _ _ _ _ w1 (h1.holds _ (List.Mem.head _)) hb1 hm1).mono ?_; rintro v w2 ⟨a2, c2, rfl, st⟩; refine LR.back (h1.did (Sel.head _ _ _) rfl st (rrA_dep _ _ _ _ _ _)) ?_; clear st h1))|(apply addX;(iterate 2 exact rfl);(iterate 2(first|omega|(dsimp only;omega)));exact rfl)|((first|refine kR' ?_ ?_|refine kQ' ?_ ?_);all_goals(intro hc;try simp only[hcs]at hc;try(exfalso;first|contradiction|omega))))
    · (apply ret1; (· exact rfl); intro w' hS)
      have e : decs (q + 1) l1 = ([], (dec l1).2.2, l1.drop (dec l1).2.1) := by unfold decs; rw [if_pos hc]
      rw [hdec, e]
      refine ⟨a2, c2, rfl, (hS.join rfl (hTe _)).step rfl |> fun h => ?_⟩
      simpa using h
    · refine LR.store_obj (v := .int .i64 ((dec l1).1 : Int)) rfl rfl (Sel.tail _ (Sel.head _ _ _)) (hTe _) (hst _) (hTd _) ?_
      repeat'(first|refine kv' ?_|apply jJ|refine jE' ?_|refine jp' ?_|(apply jc;kernel_rfl)|refine kg' ?_|refine kG' ?_|refine kB' fun _=>?_|refine kA' fun _=>?_|refine kK' fun _=>?_|refine kU' ?_|(apply addX;(iterate 2 exact rfl);(iterate 2(first|omega|(dsimp only;omega)));exact rfl)|((first|refine kR' ?_ ?_|refine kQ' ?_ ?_);all_goals(intro hc;try simp only[hcs]at hc;try(exfalso;first|contradiction|omega))))
      apply At.again (i + 1, a2, c2, vs ++ [((dec l1).1 : Int)], l1.drop (dec l1).2.1)
      · refine ⟨by show i + 1 ≤ _; omega, by simp [hvs], ⟨k + (dec l1).2.1, by simp only [hk, List.drop_drop]⟩, ?_⟩
        show decs ads.length l = _
        have e : decs (q + 1) l1 = ((((dec l1).1 : Nat) : Int) :: (decs q (l1.drop (dec l1).2.1)).1, (decs q (l1.drop (dec l1).2.1)).2) := by rw [decs, if_neg (by simpa using hc)]
        rw [hdec, e, show ads.length - (i + 1) = q by omega]
        simp
      · (repeat (first | exact Out.refl _ _ | exact Out.mix | (apply Out.upd; (· exact rfl)) | (apply Out.updL; (· exact rfl)) | (apply Out.mixs; (· exact rfl))))
      · exact ⟨rfl, trivial⟩
      · exact fun w' hw' => hw'
      · show ads.length - (i + 1) < ads.length - i; omega
  · repeat'(first|refine kv' ?_|apply jJ|refine jE' ?_|refine jp' ?_|(apply jc;kernel_rfl)|refine kg' ?_|refine kG' ?_|refine kB' fun _=>?_|refine kA' fun _=>?_|refine kK' fun _=>?_|refine kU' ?_|((first|refine kR' ?_ ?_|refine kQ' ?_ ?_);all_goals(intro hc;try simp only[hcs]at hc;try(exfalso;first|contradiction|omega))))
    (apply ret1; (· exact rfl); intro w' hS)
    have hq : ads.length - i = 0 := by omega
    rw [hq] at hdec
    rw [hdec]
    refine ⟨a1, c1, rfl, (hS.join rfl (hTe _)).step rfl |> fun h => ?_⟩
    simpa [decs] using h

theorem c66m {br : Nat} {a : Option Addr} {c : Nat} {l : List Int} {b cb m : Nat} {ads : List Addr} {E : TypeId} {T : List Int → Asrt} {w0 w : World} {F : Nat → Prop} {R : List Asrt}
    (h : St w0 F (both (rrA 142 [.bool true] br a c l) (T []) :: .own b (.cells (pv ads).toArray E (0, 0)) :: R) w) (hads : ads.length = m)
    (hT : ∀ vs x, (hi : vs.length < ads.length) → Stores Tryz.prog 3 ads[vs.length] (.int .i64 x) (T vs) (T (vs ++ [x]))) (hTe : ∀ vs, (T vs).excl = true) (hTd : ∀ vs, (T vs).dep)
    (hb : Byt l) (hm : l.length ≤ 281474976710656) (hlen : m ≤ 100) :
    CallsTo Tryz.prog 121 [.pointer (some ⟨br, 0, none⟩), .slice (some ⟨b, 0, none⟩) m cb] w fun v w' => ∃ a' c', v = .int .i64 (decs m l).2.1 ∧ St w0 F (rrA 142 [.bool true] br a' c' (decs m l).2.2 :: T (decs m l).1 :: .own b (.cells (pv ads).toArray E (0, 0)) :: R) w' := by
  subst hads
  refine (c66 br a c l (some ⟨b, 0, none⟩) cb ads T w (h.holds _ (List.Mem.head _)) (h.rd_of_blk (List.Mem.tail _ (List.Mem.head _))) (fun k hk hk2 => h.apart (List.Mem.head _) rfl k hk2 (by obtain ⟨_, ad, e, rfl⟩ := hk; cases e; rfl)) hT hTe hTd hb hm hlen).mono ?_
  rintro v w2 ⟨a2, c2, rfl, st⟩
  exact ⟨a2, c2, rfl, St.part (h.did (Sel.head _ _ _) rfl st (both_dep (rrA_dep _ _ _ _ _ _) (hTd _))) (rrA_dep _ _ _ _ _ _) (hTd _)⟩
theorem decs_bound : ∀ n l, (∀ x ∈ (decs n l).1, 0 ≤ x ∧ x ≤ 9007199254740991)
  | 0, l => by simp [decs]
  | n + 1, l => by
    unfold decs
    split
    · simp
    · rename_i h
      have ih := decs_bound n (l.drop (dec l).2.1)
      have hb := (decF_bound 8 0 0 l).2 (by simpa [dec] using h)
      intro x hx
      simp only [List.mem_cons] at hx
      rcases hx with rfl | hx
      · have : (dec l).1 ≤ 9007199254740991 := hb.2
        omega
      · exact ih x hx
def plcOf (v : List Int) : Plc := ⟨v.getD 0 0, v.getD 1 0, v.getD 2 0, v.getD 3 0⟩
def rows : Nat → List Int → List Plc × Int × List Int
  | 0, l => ([], 0, l)
  | n + 1, l => if (decs 4 l).2.1 ≠ 0 then ([], (decs 4 l).2.1, (decs 4 l).2.2) else (plcOf (decs 4 l).1 :: (rows n (decs 4 l).2.2).1, (rows n (decs 4 l).2.2).2)
def places (l : List Int) : List Plc × Int :=
  if (dec l).2.2 ≠ 0 then ([], (dec l).2.2)
  else if 4 < (dec l).1 then ([], 5)
  else if (rows (dec l).1 (l.drop (dec l).2.1)).2.1 ≠ 0 then ([], (rows (dec l).1 (l.drop (dec l).2.1)).2.1)
  else if (charts (rows (dec l).1 (l.drop (dec l).2.1)).1).2 ≠ 0 ∨ 0 < (rows (dec l).1 (l.drop (dec l).2.1)).2.2.length then ([], 4)
  else ((rows (dec l).1 (l.drop (dec l).2.1)).1, 0)
def zz (k : Nat) : List Value := List.replicate k (.int .i64 0)
theorem four {v : List Int} (h : v.length = 4) : ∃ a b c d, v = [a, b, c, d] := by
  match v, h with
  | [a, b, c, d], _ => exact ⟨a, b, c, d, rfl⟩
theorem plcOf_cells {v : List Int} (h : v.length = 4) : (plcOf v).cells = iv v := by
  obtain ⟨a, b, c, d, rfl⟩ := four h
  rfl
theorem splice_mid (A B : List Value) (z v : Value) {o : Nat} (ho : o = A.length) : splice (A ++ z :: B) o [v] = A ++ v :: B := by
  subst ho
  unfold splice
  rw [List.take_append_of_le_length (Nat.le_refl _), List.take_length]
  rw [List.drop_append]
  simp
theorem plcOf_i64 {v : List Int} (h : ∀ x ∈ v, 0 ≤ x ∧ x ≤ 9007199254740991) : i64 (plcOf v).ring ∧ i64 (plcOf v).seq ∧ i64 (plcOf v).rep ∧ i64 (plcOf v).members := by
  have : ∀ i, 0 ≤ v.getD i 0 ∧ v.getD i 0 ≤ 9007199254740991 := by
    intro i
    by_cases hi : i < v.length
    · have := h v[i] (List.getElem_mem hi)
      simpa [List.getD_eq_getElem?_getD, hi] using this
    · simp [List.getD_eq_getElem?_getD, List.getElem?_eq_none (Nat.le_of_not_lt hi)]
  unfold i64 plcOf
  have h0 := this 0; have h1 := this 1; have h2 := this 2; have h3 := this 3
  refine ⟨⟨?_, ?_⟩, ⟨?_, ?_⟩, ⟨?_, ?_⟩, ⟨?_, ?_⟩⟩ <;> (dsimp only; omega)
theorem decs_rest_len (n : Nat) (l : List Int) : (decs n l).2.2.length ≤ l.length := by
  obtain ⟨k, hk⟩ := decs_rest n l
  rw [hk]; simp
theorem decs_rest_byt (n : Nat) {l : List Int} (h : Byt l) : Byt (decs n l).2.2 := by
  obtain ⟨k, hk⟩ := decs_rest n l
  rw [hk]; exact h.drop k

end Go.Proofs.YtkolmkdbjagfcaaGreat

namespace Go.Proofs.YtkolmkdbjagfcaaGreat
open Go.Hb
attribute [local irreducible] LR CW At Ev thn blk finK noG again CallsTo DW QL dnext
set_option maxRecDepth 100000

set_option maxHeartbeats 2000000 in
theorem c25 (a : Option Addr) (ca : Nat) (l : List Int) (w : World) (hr : Rd w a (bv l)) (hz : a = none → ca = 0) (hm : l.length ≤ 140737488355328) (hb : Byt l) :
    CallsTo Tryz.prog 129 [.slice a l.length ca] w fun v w' => ∃ a2 c2, v = .tuple [.slice a2 (places l).1.length c2, .int .i64 (places l).2].toArray ∧ NewSl w w' (.slice a2 (places l).1.length c2) 167 4 (places l).1.length (pcs (places l).1) := by
  refine go_in (n := 71) (St.rd1 hr) Tryz.func129 rfl rfl ?_
  have nils : ∀ w', Grew w w' → NewSl w w' (.slice none 0 0) 167 4 0 (pcs []) := fun w' hg => ⟨hg, World.ownsRow_nil _ _ _ _⟩
  repeat'(first|refine kv' ?_|apply jJ|refine jE' ?_|refine jp' ?_|(apply jc;kernel_rfl)|refine kg' ?_|refine kG' ?_|refine kB' fun _=>?_|refine kA' fun _=>?_|refine kK' fun _=>?_|refine kU' ?_|(apply LR.call; (· exact rfl); (intro w1 h1; first | (refine (c65 a ca l w1 (h1.rd_of (List.Mem.head _)) hz hm).mono ?_; rintro v w2 ⟨br, a1, c1, rfl, hn⟩; refine LR.back (h1.got hn (rrA_dep _ _ _ _ _ _)) ?_; clear hn h1) | (refine (c73 _ _ _ l w1 (h1.holds _ (List.Mem.head _)) hb (by omega)).mono ?_; rintro v w2 ⟨a2, c2, rfl, st⟩; refine LR.back (h1.did (Sel.head _ _ _) rfl st (rrA_dep _ _ _ _ _ _)) ?_; clear st h1)))|((first|refine kR' ?_ ?_|refine kQ' ?_ ?_);all_goals(intro hc;try simp only[hcs]at hc;try(exfalso;first|contradiction|omega))))
  · (apply ret2; (· exact rfl); intro w' hS)
    have e : places l = ([], (dec l).2.2) := by unfold places; rw [if_pos hc]
    rw [e]
    exact ⟨none, 0, rfl, nils w' hS.toKeep⟩
  · rename (dec l).2.2 = 0 => hd
    (apply ret2; (· exact rfl); intro w' hS)
    have e : places l = ([], 5) := by unfold places; rw [if_neg (by simpa using hd), if_pos (by omega)]
    rw [e]
    exact ⟨none, 0, rfl, nils w' hS.toKeep⟩
  rename (dec l).2.2 = 0 => hd
  rename ((dec l).1 : Int) ≤ 4 => h4
  have hdl := dec_le l
  have ep : places l = if (rows (dec l).1 (l.drop (dec l).2.1)).2.1 ≠ 0 then ([], (rows (dec l).1 (l.drop (dec l).2.1)).2.1)
    else if (charts (rows (dec l).1 (l.drop (dec l).2.1)).1).2 ≠ 0 ∨ 0 < (rows (dec l).1 (l.drop (dec l).2.1)).2.2.length then ([], 4)
    else ((rows (dec l).1 (l.drop (dec l).2.1)).1, 0) := by
    unfold places; rw [if_neg (by simpa using hd), if_neg (by omega)]
  have hb0 : Byt (l.drop (dec l).2.1) := hb.drop _
  have hm0 : (l.drop (dec l).2.1).length ≤ 140737488355328 := by simp; omega
  rw [ep]
  clear ep hd
  generalize l.drop (dec l).2.1 = l0 at *
  generalize (dec l).1 = n at *
  have h4' : n ≤ 4 := by omega
  apply LR.makeSlice
  · exact rfl
  · exact rfl
  · omega
  · omega
  · exact rfl
  · exact rfl
  intro bs
  repeat'(first|refine kv' ?_|apply jJ|refine jE' ?_|refine jp' ?_|(apply jc;kernel_rfl)|refine kg' ?_|refine kG' ?_|refine kB' fun _=>?_|refine kA' fun _=>?_|refine kK' fun _=>?_|refine kU' ?_|((first|refine kR' ?_ ?_|refine kQ' ?_ ?_);all_goals(intro hc;try simp only[hcs]at hc;try(exfalso;first|contradiction|omega))))
  have ezz : (List.replicate n [Value.int .i64 0, .int .i64 0, .int .i64 0, .int .i64 0]).flatten = pcs [] ++ zz (4 * n) := by
    have : ∀ k, (List.replicate k [Value.int .i64 0, .int .i64 0, .int .i64 0, .int .i64 0]).flatten = zz (4 * k) := by
      intro k
      induction k with
      | zero => rfl
      | succ k ih => rw [List.replicate_succ, List.flatten_cons, ih, show 4 * (k + 1) = 4 + 4 * k by omega]; unfold zz; rw [Nat.add_comm]; rfl
    rw [this]; rfl
  rw [ezz]
  apply CW.loop [2, 3, 8, 9, 10, 31, 32, 33, 34, 35, 36, 37, 38, 39, 40, 41, 42, 43, 44, 45, 46, 47, 48, 49, 50, 51, 52, 53, 54, 55, 56, 57] (fun s : Nat × Option Addr × Nat × List Plc × List Int => s.1 ≤ n ∧ s.2.2.2.1.length = s.1 ∧ plcsI s.2.2.2.1 ∧ Byt s.2.2.2.2 ∧ s.2.2.2.2.length ≤ 140737488355328 ∧ rows n l0 = (s.2.2.2.1 ++ (rows (n - s.1) s.2.2.2.2).1, (rows (n - s.1) s.2.2.2.2).2)) (fun s => [(31, Value.int .i64 (s.1 : Int))])
    (fun s => St w NoF [.own bs (.cells (pcs s.2.2.2.1 ++ zz (4 * (n - s.1))).toArray 167 (0, 0)), rrA 142 [.bool true] br s.2.1 s.2.2.1 s.2.2.2.2]) (fun s => n - s.1)
  · exact fun w' hw' => ⟨(0, a2, c2, [], l0), ⟨by simp, rfl, fun p hp => by simp at hp, hb0, hm0, by simp⟩, ⟨rfl, trivial⟩, hw'.sub (by simp)⟩
  rintro ⟨i, a1, c1, ps, l1⟩ g ⟨hi, hps, hpi, hb1, hm1, hrows⟩
  simp only at hi hps hpi hb1 hm1 hrows ⊢
  by_cases hlt : i < n
  · obtain ⟨q, hq⟩ : ∃ q, n - i = q + 1 := ⟨n - i - 1, by omega⟩
    rw [hq] at hrows ⊢
    repeat'(first|(apply CW.reg_held (fun _ => True); apply DW.quiet [0, 1, 2, 3, 4, 5, 6, 7, 8, 9, 10, 11, 12, 13, 14]; (· kernel_rfl); (· exact fun _ _ => trivial))|refine kv' ?_|apply jJ|refine jE' ?_|refine jp' ?_|(apply jc;kernel_rfl)|refine kg' ?_|refine kG' ?_|refine kB' fun _=>?_|refine kA' fun _=>?_|refine kK' fun _=>?_|refine kU' ?_|(apply idxX;(iterate 2 exact rfl);(iterate 2(first|omega|(dsimp only;omega)));exact rfl)|((first|refine kR' ?_ ?_|refine kQ' ?_ ?_);all_goals(intro hc;try simp only[hcs]at hc;try(exfalso;first|contradiction|omega))))
    repeat'(first|refine yv' ?_|refine uv' ?_|refine un' ?_|apply QL.nil)
    apply DW.loud 15
    · exact rfl
    · kernel_rfl
    repeat'(first|refine kv' ?_|apply jJ|refine jE' ?_|refine jp' ?_|(apply jc;kernel_rfl)|refine kg' ?_|refine kG' ?_|refine kB' fun _=>?_|refine kA' fun _=>?_|refine kK' fun _=>?_|refine kU' ?_|((first|refine kR' ?_ ?_|refine kQ' ?_ ?_);all_goals(intro hc;try simp only[hcs]at hc;try(exfalso;first|contradiction|omega))))
    apply At.stage_any
    apply DW.loud 16
    · exact rfl
    · kernel_rfl
    apply LR.call
    · exact rfl
    intro w1 h1
    have h2 := ((h1.rot.swap).cast (L' := [rrA 142 [.bool true] br a1 c1 l1, .own bs (.cells (pcs ps ++ iv [] ++ zz (4 * (q + 1) - ([] : List Int).length)).toArray 167 (0, 0)), _]) (by simp [iv]; rfl)).join rfl rfl
    refine (c66m (m := 4) (ads := [⟨bs, i * 4, none⟩, ⟨bs, i * 4 + 1, none⟩, ⟨bs, i * 4 + 1 + 1, none⟩, ⟨bs, i * 4 + 3, none⟩]) (T := fun vs => .own bs (.cells (pcs ps ++ iv vs ++ zz (4 * (q + 1) - vs.length)).toArray 167 (0, 0))) h2 rfl ?_ (fun _ => rfl) (fun _ => Asrt.dep_own _ _) hb1 (by omega) (by omega)).mono ?_
    · intro vs x hi'
      have e : ∀ k (hk : k < 4), ([⟨bs, i * 4, none⟩, ⟨bs, i * 4 + 1, none⟩, ⟨bs, i * 4 + 1 + 1, none⟩, ⟨bs, i * 4 + 3, none⟩] : List Addr)[k] = ⟨bs, i * 4 + k, none⟩ := by
        intro k hk
        match k, hk with
        | 0, _ => rfl
        | 1, _ => rfl
        | 2, _ => rfl
        | 3, _ => rfl
      have hi4 : vs.length < 4 := hi'
      rw [e _ hi4]
      have e2 : zz (4 * (q + 1) - vs.length) = .int .i64 0 :: zz (4 * (q + 1) - (vs ++ [x]).length) := by
        rw [show 4 * (q + 1) - vs.length = (4 * (q + 1) - (vs ++ [x]).length) + 1 by simp; omega]; rfl
      have st := Stores.own (P := Tryz.prog) (T := 3) (m := 1) (b := bs) (o := i * 4 + vs.length) (v := .int .i64 x) (cs := pcs ps ++ iv vs ++ zz (4 * (q + 1) - vs.length)) (vs := [.int .i64 x]) (E := 167) inferInstance rfl rfl rfl (by
        simp [pcs_length, hps, zz]; omega)
      rw [e2, splice_mid _ _ _ _ (by simp [pcs_length, hps])] at st
      rw [e2]
      simpa [iv] using st
    rintro v w2 ⟨a2, c2, rfl, st⟩
    refine LR.back st ?_
    clear st h1 h2
    repeat'(first|refine kv' ?_|apply jJ|refine jE' ?_|refine jp' ?_|(apply jc;kernel_rfl)|refine kg' ?_|refine kG' ?_|refine kB' fun _=>?_|refine kA' fun _=>?_|refine kK' fun _=>?_|refine kU' ?_|((first|refine kR' ?_ ?_|refine kQ' ?_ ?_);all_goals(intro hc;try simp only[hcs]at hc;try(exfalso;first|contradiction|omega))))
    apply At.stage_any
    apply DW.loud 17
    · exact rfl
    · kernel_rfl
    repeat'(first|refine kv' ?_|apply jJ|refine jE' ?_|refine jp' ?_|(apply jc;kernel_rfl)|refine kg' ?_|refine kG' ?_|refine kB' fun _=>?_|refine kA' fun _=>?_|refine kK' fun _=>?_|refine kU' ?_|((first|refine kR' ?_ ?_|refine kQ' ?_ ?_);all_goals(intro hc;try simp only[hcs]at hc;try(exfalso;first|contradiction|omega))))
    apply At.stage_any
    apply DW.done_thn
    · kernel_rfl
    repeat'(first|refine kv' ?_|apply jJ|refine jE' ?_|refine jp' ?_|(apply jc;kernel_rfl)|refine kg' ?_|refine kG' ?_|refine kB' fun _=>?_|refine kA' fun _=>?_|refine kK' fun _=>?_|refine kU' ?_|(apply addX;(iterate 2 exact rfl);(iterate 2(first|omega|(dsimp only;omega)));exact rfl)|((first|refine kR' ?_ ?_|refine kQ' ?_ ?_);all_goals(intro hc;try simp only[hcs]at hc;try(exfalso;first|contradiction|omega))))
    · (apply ret2; (· exact rfl); intro w' hS)
      have e : rows (q + 1) l1 = ([], (decs 4 l1).2.1, (decs 4 l1).2.2) := by rw [rows, if_pos hc]
      rw [hrows, e]
      simp only [List.append_nil]
      rw [if_pos hc]
      exact ⟨none, 0, rfl, nils w' hS.toKeep⟩
    · have hl4 := (decs_len 4 l1).2 hc
      have hl5 := decs_rest_len 4 l1
      apply At.again (i + 1, a2, c2, ps ++ [plcOf (decs 4 l1).1], (decs 4 l1).2.2)
      · refine ⟨by show i + 1 ≤ _; omega, by simp [hps], ?_, decs_rest_byt 4 hb1, by dsimp only; omega, ?_⟩
        · intro p hp
          simp only [List.mem_append, List.mem_singleton] at hp
          rcases hp with hp | rfl
          · exact hpi p hp
          · exact plcOf_i64 (decs_bound 4 l1)
        · show rows n l0 = _
          have e : rows (q + 1) l1 = (plcOf (decs 4 l1).1 :: (rows q (decs 4 l1).2.2).1, (rows q (decs 4 l1).2.2).2) := by rw [rows, if_neg (by simpa using hc)]
          rw [hrows, e, show n - (i + 1) = q by omega]
          simp
      · (repeat (first | exact Out.refl _ _ | exact Out.mix | (apply Out.upd; (· exact rfl)) | (apply Out.updL; (· exact rfl)) | (apply Out.mixs; (· exact rfl))))
      · exact ⟨rfl, trivial⟩
      · intro w' hw'
        refine (St.sub (L' := [_, _]) hw'.swap (List.Sublist.cons_cons _ (List.Sublist.cons_cons _ (List.nil_sublist _)))).cast ?_
        have e1 : pcs ps ++ iv (decs 4 l1).1 ++ zz (4 * (q + 1) - (decs 4 l1).1.length) = pcs (ps ++ [plcOf (decs 4 l1).1]) ++ zz (4 * (n - (i + 1))) := by
          rw [hl4, show 4 * (n - (i + 1)) = 4 * (q + 1) - 4 by omega]
          simp only [pcs, List.flatMap_append, List.flatMap_cons, List.flatMap_nil, List.append_nil, plcOf_cells hl4]
        rw [e1]
      · show n - (i + 1) < n - i; omega
  · have hq : n - i = 0 := by omega
    rw [hq] at hrows ⊢
    have hin : i = n := by omega
    have er : rows n l0 = (ps, 0, l1) := by rw [hrows]; simp [rows]
    rw [er]
    simp only
    subst hin
    rw [show zz (4 * 0) = [] from rfl, List.append_nil, ← hps]
    rw [if_neg (by simp)]
    repeat'(first|refine kv' ?_|apply jJ|refine jE' ?_|refine jp' ?_|(apply jc;kernel_rfl)|refine kg' ?_|refine kG' ?_|refine kB' fun _=>?_|refine kA' fun _=>?_|refine kK' fun _=>?_|refine kU' ?_|(apply LR.call; (· exact rfl); (intro w1 h1; refine (c28 _ _ ps w1 (h1.rd_of_blk (cs := pcs ps) (List.Mem.head _)) (by omega) hpi).mono ?_; rintro v w2 ⟨a2, c2, rfl, hn⟩; refine LR.back (h1.newSl hn) ?_; clear hn h1))|(apply LR.qcall; (· exact rfl); (· intro w1 h1; exact CallsTo.q (c68 br a1 c1 l1 w1 (h1.holds _ (List.Mem.tail _ (List.Mem.tail _ (List.Mem.head _))))) h1))|((first|refine kR' ?_ ?_|refine kQ' ?_ ?_);all_goals(intro hc;try simp only[hcs]at hc;try(exfalso;first|contradiction|omega))))
    · (apply ret2; (· exact rfl); intro w' hS)
      rw [if_pos (.inl hc)]
      exact ⟨none, 0, rfl, nils w' hS.toKeep⟩
    · rename (charts ps).2 = 0 => h0
      (apply ret2; (· exact rfl); intro w' hS)
      rw [if_pos (.inr (by omega))]
      exact ⟨none, 0, rfl, nils w' hS.toKeep⟩
    · rename (charts ps).2 = 0 => h0
      (apply ret2; (· exact rfl); intro w' hS)
      rw [if_neg (by simp only [not_or, Nat.not_lt]; exact ⟨by simpa using h0, by omega⟩)]
      exact ⟨some ⟨bs, 0, none⟩, ps.length, rfl, (hS.own_osl (Sel.tail _ (Sel.head _ _ _)) (pcs_length ps) (by unfold maxLen; omega)).toNew (List.Mem.tail _ (List.Mem.head _))⟩
end Go.Proofs.YtkolmkdbjagfcaaGreat

namespace Go.Proofs.YtkolmkdbjagfcaaGreat
open Go.Hb
attribute [local irreducible] LR CW At Ev thn blk finK noG again CallsTo DW QL dnext
set_option maxRecDepth 100000

theorem nilSl {w0 w : World} {F : Nat → Prop} {L : List Asrt} (E sz : Nat) (h : St w0 F L w) : St w0 F (osl (.slice none 0 0) E sz 0 [] :: L) w :=
  h.push (Grew.refl w) (World.ownsRow_nil w 0 E sz) (fun k hk => by simp [osl, Asrt.foot, Value.ownBlock] at hk) (osl.dep _ _ _ _ _)
def psl (a : Option Addr) (c : Nat) (ps : List Plc) : Asrt := osl (.slice a ps.length c) 167 4 ps.length (pcs ps)

set_option maxHeartbeats 2000000 in
theorem c26 (a : Option Addr) (ca : Nat) (l : List Int) (w : World) (hr : Rd w a (bv l)) (hz : a = none → ca = 0) (hm : l.length ≤ 140737488355328) (hb : Byt l) :
    CallsTo Tryz.prog 117 [.slice a l.length ca] w fun v w' => ∃ a2 c2, v = .tuple [.slice a2 (places l).1.length c2, .int .i64 (places l).2].toArray ∧ NewSl w w' (.slice a2 (places l).1.length c2) 167 4 (places l).1.length (pcs (places l).1) := by
  refine go_in (n := 73) (St.rd1 hr) Tryz.func117 rfl rfl ?_
  have nils : ∀ w', Grew w w' → NewSl w w' (.slice none 0 0) 167 4 0 (pcs []) := fun w' hg => ⟨hg, World.ownsRow_nil _ _ _ _⟩
  repeat'(first|refine kv' ?_|apply jJ|refine jE' ?_|refine jp' ?_|(apply jc;kernel_rfl)|refine kg' ?_|refine kG' ?_|refine kB' fun _=>?_|refine kA' fun _=>?_|refine kK' fun _=>?_|refine kU' ?_|(apply LR.call; (· exact rfl); (intro w1 h1; first | (refine (c69 a ca l w1 (h1.rd_of (List.Mem.head _)) hz hm).mono ?_; rintro v w2 ⟨br, a1, c1, rfl, hn⟩; refine LR.back (h1.got hn (rrA_dep _ _ _ _ _ _)) ?_; clear hn h1) | (refine (c70 _ _ _ l w1 (h1.holds _ (List.Mem.head _)) hb (by omega)).mono ?_; rintro v w2 ⟨a2, c2, rfl, st⟩; refine LR.back (h1.did (Sel.head _ _ _) rfl st (rrA_dep _ _ _ _ _ _)) ?_; clear st h1)))|((first|refine kR' ?_ ?_|refine kQ' ?_ ?_);all_goals(intro hc;try simp only[hcs]at hc;try(exfalso;first|contradiction|omega))))
  · (apply ret2; (· exact rfl); intro w' hS)
    have e : places l = ([], (dec l).2.2) := by unfold places; rw [if_pos hc]
    rw [e]
    exact ⟨none, 0, rfl, nils w' hS.toKeep⟩
  · rename (dec l).2.2 = 0 => hd
    (apply ret2; (· exact rfl); intro w' hS)
    have e : places l = ([], 5) := by unfold places; rw [if_neg (by simpa using hd), if_pos (by omega)]
    rw [e]
    exact ⟨none, 0, rfl, nils w' hS.toKeep⟩
  rename (dec l).2.2 = 0 => hd
  rename ((dec l).1 : Int) ≤ 4 => h4
  have hdl := dec_le l
  have ep : places l = if (rows (dec l).1 (l.drop (dec l).2.1)).2.1 ≠ 0 then ([], (rows (dec l).1 (l.drop (dec l).2.1)).2.1)
    else if (charts (rows (dec l).1 (l.drop (dec l).2.1)).1).2 ≠ 0 ∨ 0 < (rows (dec l).1 (l.drop (dec l).2.1)).2.2.length then ([], 4)
    else ((rows (dec l).1 (l.drop (dec l).2.1)).1, 0) := by
    unfold places; rw [if_neg (by simpa using hd), if_neg (by omega)]
  have hb0 : Byt (l.drop (dec l).2.1) := hb.drop _
  have hm0 : (l.drop (dec l).2.1).length ≤ 140737488355328 := by simp; omega
  rw [ep]
  clear ep hd
  generalize l.drop (dec l).2.1 = l0 at *
  generalize (dec l).1 = n at *
  have h4' : n ≤ 4 := by omega
  apply CW.loop [2, 3, 7, 8, 9, 10, 11, 12, 27, 28, 29, 30, 31, 32, 33, 34, 35, 36, 37, 38, 39, 40, 41, 42, 43, 44, 45, 46, 47, 48, 49, 50, 51, 52, 53, 54, 55, 56, 57, 58, 59] (fun s : Nat × (Option Addr × Nat) × (Option Addr × Nat) × List Plc × List Int => s.1 ≤ n ∧ s.2.2.2.1.length = s.1 ∧ plcsI s.2.2.2.1 ∧ Byt s.2.2.2.2 ∧ s.2.2.2.2.length ≤ 140737488355328 ∧ rows n l0 = (s.2.2.2.1 ++ (rows (n - s.1) s.2.2.2.2).1, (rows (n - s.1) s.2.2.2.2).2)) (fun s => [(8, Value.int .i64 (s.1 : Int)), (7, .slice s.2.2.1.1 s.2.2.2.1.length s.2.2.1.2)])
    (fun s => St w NoF [psl s.2.2.1.1 s.2.2.1.2 s.2.2.2.1, rrA 143 [] br s.2.1.1 s.2.1.2 s.2.2.2.2]) (fun s => n - s.1)
  · exact fun w' hw' => ⟨(0, (a2, c2), (none, 0), [], l0), ⟨by simp, rfl, fun p hp => by simp at hp, hb0, hm0, by simp⟩, ⟨rfl, rfl, trivial⟩, (nilSl 167 4 hw').sub (List.Sublist.cons_cons _ (List.Sublist.cons_cons _ (List.nil_sublist _)))⟩
  rintro ⟨i, ⟨a1, c1⟩, ⟨ao, co⟩, ps, l1⟩ g ⟨hi, hps, hpi, hb1, hm1, hrows⟩
  simp only at hi hps hpi hb1 hm1 hrows ⊢
  by_cases hlt : i < n
  · obtain ⟨q, hq⟩ : ∃ q, n - i = q + 1 := ⟨n - i - 1, by omega⟩
    rw [hq] at hrows
    repeat'(first|refine kv' ?_|apply jJ|refine jE' ?_|refine jp' ?_|(apply jc;kernel_rfl)|refine kg' ?_|refine kG' ?_|refine kB' fun _=>?_|refine kA' fun _=>?_|refine kK' fun _=>?_|refine kU' ?_|((first|refine kR' ?_ ?_|refine kQ' ?_ ?_);all_goals(intro hc;try simp only[hcs]at hc;try(exfalso;first|contradiction|omega))))
    rename_i ba
    apply CW.loop [2, 3, 10, 11, 12, 32, 33, 34, 35, 36, 37, 38, 39, 40, 41, 42, 43, 44, 45, 46] (fun s : Nat × (Option Addr × Nat) × List Int × List Int => s.1 ≤ 4 ∧ s.2.2.1.length = s.1 ∧ Byt s.2.2.2 ∧ s.2.2.2.length ≤ 140737488355328 ∧ decs 4 l1 = (s.2.2.1 ++ (decs (4 - s.1) s.2.2.2).1, (decs (4 - s.1) s.2.2.2).2)) (fun s => [(10, Value.int .i64 (s.1 : Int))])
      (fun s => St w NoF [.own ba (.cells (iv s.2.2.1 ++ zz (4 - s.1)).toArray 165 (0, 0)), psl ao co ps, rrA 143 [] br s.2.1.1 s.2.1.2 s.2.2.2]) (fun s => 4 - s.1)
    · exact fun w' hw' => ⟨(0, (a1, c1), [], l1), ⟨by simp, rfl, hb1, hm1, by simp⟩, ⟨rfl, trivial⟩, hw'⟩
    rintro ⟨k, ⟨a3, c3⟩, vs, l3⟩ g3 ⟨hk, hvs, hb3, hm3, hdec⟩
    simp only at hk hvs hb3 hm3 hdec ⊢
    by_cases hlt3 : k < 4
    · obtain ⟨q3, hq3⟩ : ∃ q, 4 - k = q + 1 := ⟨4 - k - 1, by omega⟩
      rw [hq3] at hdec ⊢
      repeat'(first|refine kv' ?_|apply jJ|refine jE' ?_|refine jp' ?_|(apply jc;kernel_rfl)|refine kg' ?_|refine kG' ?_|refine kB' fun _=>?_|refine kA' fun _=>?_|refine kK' fun _=>?_|refine kU' ?_|(apply LR.ev; (· apply Ev.indexArr; (· exact rfl); (· exact rfl); (· first | decide | omega | (dsimp only; omega)); (· first | decide | omega | (dsimp only; omega))); (· exact rfl))|(apply LR.call; (· exact rfl); (intro w1 h1; refine (c70 _ _ _ l3 w1 (h1.holds _ (List.Mem.tail _ (List.Mem.tail _ (List.Mem.head _)))) hb3 (by omega)).mono ?_; rintro v w2 ⟨a4, c4, rfl, st⟩; refine LR.back (h1.did (Sel.tail _ (Sel.tail _ (Sel.head _ _ _))) rfl st (rrA_dep _ _ _ _ _ _)) ?_; clear st h1))|((first|refine kR' ?_ ?_|refine kQ' ?_ ?_);all_goals(intro hc;try simp only[hcs]at hc;try(exfalso;first|contradiction|omega))))
      · (apply ret2; (· exact rfl); intro w' hS)
        have e : decs 4 l1 = (vs, (dec l3).2.2, l3.drop (dec l3).2.1) := by rw [hdec]; simp only [decs, if_pos hc, List.append_nil]
        have e2 : rows (q + 1) l1 = ([], (decs 4 l1).2.1, (decs 4 l1).2.2) := by rw [rows, if_pos (by rw [e]; exact hc)]
        rw [hrows, e2, e]
        simp only [List.append_nil]
        rw [if_pos hc]
        exact ⟨none, 0, rfl, nils w' hS.toKeep⟩
      · refine LR.store_obj (v := .int .i64 ((dec l3).1 : Int)) (z' := .own ba (.cells (iv (vs ++ [((dec l3).1 : Int)]) ++ zz q3).toArray 165 (0, 0))) rfl rfl (Sel.head _ _ _) rfl ?_ (Asrt.dep_own _ _) ?_
        · have st := Stores.own (P := Tryz.prog) (T := 3) (m := 1) (b := ba) (o := 0 + (k : Int).toNat * 1) (v := .int .i64 ((dec l3).1 : Int)) (cs := iv vs ++ zz (q3 + 1)) (vs := [.int .i64 ((dec l3).1 : Int)]) (E := 165) inferInstance rfl rfl rfl (by
            simp [hvs, zz])
          have e2 : zz (q3 + 1) = .int .i64 0 :: zz q3 := rfl
          rw [e2, splice_mid _ _ _ _ (by simp [hvs])] at st
          rw [e2]
          simpa [iv] using st
        repeat'(first|refine kv' ?_|apply jJ|refine jE' ?_|refine jp' ?_|(apply jc;kernel_rfl)|refine kg' ?_|refine kG' ?_|refine kB' fun _=>?_|refine kA' fun _=>?_|refine kK' fun _=>?_|refine kU' ?_|(apply addX;(iterate 2 exact rfl);(iterate 2(first|omega|(dsimp only;omega)));exact rfl)|((first|refine kR' ?_ ?_|refine kQ' ?_ ?_);all_goals(intro hc;try simp only[hcs]at hc;try(exfalso;first|contradiction|omega))))
        apply At.again (k + 1, (a4, c4), vs ++ [((dec l3).1 : Int)], l3.drop (dec l3).2.1)
        · refine ⟨by show k + 1 ≤ _; omega, by simp [hvs], hb3.drop _, by simp; omega, ?_⟩
          show decs 4 l1 = _
          have e : decs (q3 + 1) l3 = ((((dec l3).1 : Nat) : Int) :: (decs q3 (l3.drop (dec l3).2.1)).1, (decs q3 (l3.drop (dec l3).2.1)).2) := by rw [decs, if_neg (by simpa using hc)]
          rw [hdec, e, show 4 - (k + 1) = q3 by omega]
          simp
        · (repeat (first | exact Out.refl _ _ | exact Out.mix | (apply Out.upd; (· exact rfl)) | (apply Out.updL; (· exact rfl)) | (apply Out.mixs; (· exact rfl))))
        · exact ⟨rfl, trivial⟩
        · intro w' hw'
          simp only [show 4 - (k + 1) = q3 by omega]
          exact hw'
        · show 4 - (k + 1) < 4 - k; omega
    · have hk4 : k = 4 := by omega
      subst hk4
      have hd4 : decs 4 l1 = (vs, 0, l3) := by rw [hdec]; simp [decs]
      obtain ⟨v0, v1, v2, v3, rfl⟩ := four hvs
      have hvb := decs_bound 4 l1
      rw [hd4] at hvb
      have e2 : rows (q + 1) l1 = (plcOf [v0, v1, v2, v3] :: (rows q l3).1, (rows q l3).2) := by rw [rows, hd4, if_neg (by simp)]
      rw [e2] at hrows
      repeat'(first|refine kv' ?_|apply jJ|refine jE' ?_|refine jp' ?_|(apply jc;kernel_rfl)|refine kg' ?_|refine kG' ?_|refine kB' fun _=>?_|refine kA' fun _=>?_|refine kK' fun _=>?_|refine kU' ?_|(apply LR.ev; (· apply Ev.indexArr; (· exact rfl); (· exact rfl); (· first | decide | omega | (dsimp only; omega)); (· first | decide | omega | (dsimp only; omega))); (· exact rfl))|(refine LR.append (L' := fun a' c' => [_, _, osl (.slice a' (ps.length + 1) c') 167 4 (ps.length + 1) (pcs ps ++ (plcOf [v0, v1, v2, v3]).cells), _]) (xs := pcs ps) rfl rfl (fun a' c' => Sel.tail _ (Sel.tail _ (Sel.head _ _ _))) (fun w' hw' => hw'.rd_of_blk (List.Mem.head _)) (fun hx => by cases hx) rfl rfl (by omega) (by unfold maxLen; omega) rfl ?_; intro a5 c5)|(apply addX;(iterate 2 exact rfl);(iterate 2(first|omega|(dsimp only;omega)));exact rfl)|((first|refine kR' ?_ ?_|refine kQ' ?_ ?_);all_goals(intro hc;try simp only[hcs]at hc;try(exfalso;first|contradiction|omega))))
      have el : (ps ++ [plcOf [v0, v1, v2, v3]]).length = ps.length + 1 := by simp
      apply At.again (i + 1, (a3, c3), (a5, c5), ps ++ [plcOf [v0, v1, v2, v3]], l3)
      · refine ⟨by show i + 1 ≤ _; omega, by simp [hps], ?_, hb3, hm3, ?_⟩
        · intro p hp
          simp only [List.mem_append, List.mem_singleton] at hp
          rcases hp with hp | rfl
          · exact hpi p hp
          · exact plcOf_i64 hvb
        · show rows n l0 = _
          rw [hrows, show n - (i + 1) = q by omega]
          simp
      · (repeat (first | exact Out.refl _ _ | exact Out.mix | (apply Out.upd; (· exact rfl)) | (apply Out.updL; (· exact rfl)) | (apply Out.mixs; (· exact rfl))))
      · simp only [el]
        exact ⟨rfl, rfl, trivial⟩
      · intro w' hw'
        refine hw'.tail1.tail1.cast ?_
        have ep2 : pcs ps ++ (plcOf [v0, v1, v2, v3]).cells = pcs (ps ++ [plcOf [v0, v1, v2, v3]]) := by simp [pcs]
        simp only [psl, el, ep2]
      · show n - (i + 1) < n - i; omega
  · have hq : n - i = 0 := by omega
    rw [hq] at hrows
    have hin : i = n := by omega
    have er : rows n l0 = (ps, 0, l1) := by rw [hrows]; simp [rows]
    rw [er]
    simp only
    subst hin
    rw [if_neg (by simp)]
    repeat'(first|refine kv' ?_|apply jJ|refine jE' ?_|refine jp' ?_|(apply jc;kernel_rfl)|refine kg' ?_|refine kG' ?_|refine kB' fun _=>?_|refine kA' fun _=>?_|refine kK' fun _=>?_|refine kU' ?_|(apply LR.call; (· exact rfl); (intro w1 h1; refine (c29 _ _ ps w1 (h1.rd_of_own (List.Mem.head _)) (by omega) hpi).mono ?_; rintro v w2 ⟨a2, c2, rfl, hn⟩; refine LR.back (h1.newSl hn) ?_; clear hn h1))|(apply LR.qcall; (· exact rfl); (· intro w1 h1; exact CallsTo.q (c72 br a1 c1 l1 w1 (h1.holds _ (List.Mem.tail _ (List.Mem.tail _ (List.Mem.head _))))) h1))|((first|refine kR' ?_ ?_|refine kQ' ?_ ?_);all_goals(intro hc;try simp only[hcs]at hc;try(exfalso;first|contradiction|omega))))
    · (apply ret2; (· exact rfl); intro w' hS)
      rw [if_pos (.inl hc)]
      exact ⟨none, 0, rfl, nils w' hS.toKeep⟩
    · rename (charts ps).2 = 0 => h0
      (apply ret2; (· exact rfl); intro w' hS)
      rw [if_pos (.inr (by omega))]
      exact ⟨none, 0, rfl, nils w' hS.toKeep⟩
    · rename (charts ps).2 = 0 => h0
      (apply ret2; (· exact rfl); intro w' hS)
      rw [if_neg (by simp only [not_or, Nat.not_lt]; exact ⟨by simpa using h0, by omega⟩)]
      exact ⟨ao, co, rfl, hS.toNew (List.Mem.tail _ (List.Mem.head _))⟩
end Go.Proofs.YtkolmkdbjagfcaaGreat

namespace Go.Proofs.YtkolmkdbjagfcaaGreat
open Go.Hb
attribute [local irreducible] LR CW At Ev thn blk finK noG again CallsTo DW QL dnext
set_option maxRecDepth 100000

instance : MapOf Tryz.prog 154 .i64 .nilFunc := ⟨⟨3, 152, Tryz.underlying154, Tryz.underlying3, Tryz.zeroValue152⟩⟩
def ruleL : List (Int × Value) := [(1, .func (.func 122) #[] #[]), (2, .func (.func 123) #[] #[]), (3, .func (.func 124) #[] #[]), (4, .func (.func 125) #[] #[]), (5, .func (.func 126) #[] #[])]

theorem c58 (w : World) : CallsTo Tryz.prog 111 [] w fun v w' => ∃ b, v = .map (some b) ∧ New1 (.own b (mapObj .i64 ruleL)) w w' := by
  refine go_in (n := 3) (St.refl _ NoF) Tryz.func111 rfl rfl ?_
  repeat'(first|refine kv' ?_|apply jJ|refine jE' ?_|refine jp' ?_|(apply jc;kernel_rfl)|refine kg' ?_|refine kG' ?_|refine kB' fun _=>?_|refine kA' fun _=>?_|refine kK' fun _=>?_|refine kU' ?_|(apply LR.makeMap; (· exact rfl); intro b)|(refine LR.insert rfl rfl rfl (Sel.head _ _ _) rfl ?_)|((first|refine kR' ?_ ?_|refine kQ' ?_ ?_);all_goals(intro hc;try simp only[hcs]at hc;try(exfalso;first|contradiction|omega))))
  (apply ret1; (· exact rfl); intro w' hS)
  exact ⟨b, rfl, (hS.cast (L' := [.own b (mapObj .i64 ruleL)]) rfl).new1 rfl⟩
end Go.Proofs.YtkolmkdbjagfcaaGreat

namespace Go.Proofs.YtkolmkdbjagfcaaGreat
open Go.Hb
attribute [local irreducible] LR CW At Ev thn blk finK noG again CallsTo DW QL dnext
set_option maxRecDepth 100000

def chartB (m : Msg) : Bool := plainB m && decide (m.id = 0) && decide ((places m.body).2 = 0)
theorem c93 (m : Msg) (a : Option Addr) (c : Nat) (w : World) (hr : Rd w a (bv m.body)) (hz : a = none → c = 0) (hm : m.body.length ≤ 140737488355328) (hb : Byt m.body) :
    CallsTo Tryz.prog 125 [m.val a c] w fun v w' => v = .bool (chartB m) ∧ Grew w w' := by
  refine go_in (n := 22) (St.rd1 hr) Tryz.func125 rfl rfl ?_
  unfold chartB
  repeat'(first|refine kv' ?_|apply jJ|refine jE' ?_|refine jp' ?_|(apply jc;kernel_rfl)|refine kg' ?_|refine kG' ?_|refine kB' fun _=>?_|refine kA' fun _=>?_|refine kK' fun _=>?_|refine kU' ?_|(apply LR.call; (· exact rfl); (intro w1 h1; refine (c25 a c m.body w1 (h1.rd_of (List.Mem.tail _ (List.Mem.head _))) hz hm hb).mono ?_; rintro v w2 ⟨a2, c2, rfl, hn⟩; refine LR.back (h1.newSl hn) ?_; clear hn h1))|(apply LR.qcall; (· exact rfl); (· intro w1 h1; have hq := CallsTo.q (c103 m a c w1) h1; show CallsTo Tryz.prog 128 [m.val a c] w1 _; exact hq))|((first|refine kR' ?_ ?_|refine kQ' ?_ ?_);all_goals(intro hc;try simp only[hcs]at hc;try(exfalso;first|contradiction|omega))))
  all_goals (
    (apply ret1; (· exact rfl); intro w' hS)
    refine ⟨congrArg Value.bool ?_, hS.toKeep⟩
    simp_all)

def zeroMsg : Msg := ⟨0, 0, 0, 0, 0, 0, 0, false, 0, 0, 0, 0, []⟩
def oldB (u : List Int → Msg × Int) (m : Msg) : Bool :=
  plainB m && decide (1 ≤ m.id ∧ m.id ≤ 8 ∧ ¬ (m.rseq = 0 ∧ m.rrep = 0) ∧ 0 < m.kseq ∧ (u m.body).2 = 0 ∧ (u m.body).1.kind ≠ 5)
def kindB (u : List Int → Msg × Int) (m : Msg) : Bool :=
  if m.kind = 1 then textB m else if m.kind = 2 then emptyB m else if m.kind = 3 then wantB m else if m.kind = 4 then chartB m else if m.kind = 5 then oldB u m else false
def mayB (u : List Int → Msg × Int) (m : Msg) : Bool :=
  decide (1 ≤ m.kind ∧ m.kind ≤ 5) && withinB m.origin 1 8 && withinB m.life 0 9007199254740991 && withinB m.id 0 9007199254740991 && withinB m.groups 0 255 && decide (keyE m.stamp m.rseq m.rrep m.kseq = 0) && kindB u m
def checkM (u : List Int → Msg × Int) (m : Msg) : Int := if 160 < m.body.length then 5 else if mayB u m then 0 else 2
def msgOf (v x : List Int) (b : List Int) : Msg := ⟨v.getD 0 0, v.getD 1 0, v.getD 2 0, v.getD 3 0, v.getD 4 0, v.getD 5 0, v.getD 6 0, decide (v.getD 7 0 = 1), x.getD 0 0, x.getD 1 0, x.getD 2 0, x.getD 3 0, b⟩
def unpackW (ck : Msg → Int) (l : List Int) : Msg × Int :=
  if (decs 8 l).2.1 ≠ 0 then (zeroMsg, (decs 8 l).2.1)
  else if 1 < (decs 8 l).1.getD 7 0 then (zeroMsg, 4)
  else if (decs 4 (decs 8 l).2.2).2.1 ≠ 0 then (zeroMsg, (decs 4 (decs 8 l).2.2).2.1)
  else if (octs 160 (decs 4 (decs 8 l).2.2).2.2).2.1 ≠ 0 then (zeroMsg, (octs 160 (decs 4 (decs 8 l).2.2).2.2).2.1)
  else if 0 < (octs 160 (decs 4 (decs 8 l).2.2).2.2).2.2.length ∨ ck (msgOf (decs 8 l).1 (decs 4 (decs 8 l).2.2).1 (octs 160 (decs 4 (decs 8 l).2.2).2.2).1) ≠ 0 then (zeroMsg, 4)
  else (msgOf (decs 8 l).1 (decs 4 (decs 8 l).2.2).1 (octs 160 (decs 4 (decs 8 l).2.2).2.2).1, 0)
def unpackF : Nat → List Int → Msg × Int
  | 0 => unpackW fun _ => 2
  | k + 1 => unpackW (checkM (unpackF k))

def UnpC (g : Nat) (K : Nat) : Prop := ∀ (a : Option Addr) (ca : Nat) (l : List Int) (w : World), Rd w a (bv l) → (a = none → ca = 0) → l.length ≤ 140737488355328 → Byt l → l.length ≤ K →
  CallsTo Tryz.prog g [.slice a l.length ca] w fun v w' => ∃ a2 c2, v = .tuple [(unpackF K l).1.val a2 c2, .int .i64 (unpackF K l).2].toArray ∧ NewSl w w' (.slice a2 (unpackF K l).1.body.length c2) 5 1 (unpackF K l).1.body.length (bv (unpackF K l).1.body)

theorem c94 {K : Nat} (hU : UnpC 110 K) (m : Msg) (a : Option Addr) (c : Nat) (w : World) (hr : Rd w a (bv m.body)) (hz : a = none → c = 0) (hm : m.body.length ≤ 140737488355328) (hb : Byt m.body) (hK : m.body.length ≤ K) :
    CallsTo Tryz.prog 126 [m.val a c] w fun v w' => v = .bool (oldB (unpackF K) m) ∧ Grew w w' := by
  refine go_in (n := 40) (St.rd1 hr) Tryz.func126 rfl rfl ?_
  unfold oldB
  repeat'(first|refine kv' ?_|apply jJ|refine jE' ?_|refine jp' ?_|(apply jc;kernel_rfl)|refine kg' ?_|refine kG' ?_|refine kB' fun _=>?_|refine kA' fun _=>?_|refine kK' fun _=>?_|refine kU' ?_|(apply LR.call; (· exact rfl); (intro w1 h1; refine (hU a c m.body w1 (h1.rd_of (List.Mem.tail _ (List.Mem.head _))) hz hm hb hK).mono ?_; rintro v w2 ⟨a2, c2, rfl, hn⟩; refine LR.back (h1.newSl hn) ?_; clear hn h1))|(apply LR.qcall; (· exact rfl); (· intro w1 h1; have hq := CallsTo.q (c103 m a c w1) h1; show CallsTo Tryz.prog 128 [m.val a c] w1 _; exact hq))|(apply kq;(·exact rfl);(·intro w1 h1;exact CallsTo.q (c59 _ _ _ w1) h1))|((first|refine kR' ?_ ?_|refine kQ' ?_ ?_);all_goals(intro hc;try simp only[hcs]at hc;try(exfalso;first|contradiction|omega))))
  all_goals (
    (apply ret1; (· exact rfl); intro w' hS)
    refine ⟨congrArg Value.bool ?_, hS.toKeep⟩
    simp_all [withinB_iff] <;> (intros; omega))

theorem rule_known {K : Nat} (hU : UnpC 110 K) (m : Msg) (a : Option Addr) (c : Nat) (h1 : 1 ≤ m.kind) (h5 : m.kind ≤ 5) (hz : a = none → c = 0) (hm : m.body.length ≤ 140737488355328) (hb : Byt m.body) (hK : m.body.length ≤ K) :
    ∃ j g, findI m.kind ruleL 0 = some (j, .func (.func g) #[] #[]) ∧ Own Tryz.prog g ∧ ∀ w1, Rd w1 a (bv m.body) → CallsTo Tryz.prog g [m.val a c] w1 fun v w' => v = .bool (kindB (unpackF K) m) ∧ Grew w1 w' := by
  have : m.kind = 1 ∨ m.kind = 2 ∨ m.kind = 3 ∨ m.kind = 4 ∨ m.kind = 5 := by omega
  unfold kindB
  rcases this with h | h | h | h | h <;> simp only [h, findI, ruleL]
  · exact ⟨0, 122, rfl, inferInstance, fun w1 _ => by simpa using c90 m a c w1⟩
  · exact ⟨1, 123, rfl, inferInstance, fun w1 _ => by simpa using c91 m a c w1⟩
  · exact ⟨2, 124, rfl, inferInstance, fun w1 _ => by simpa using c92 m a c w1⟩
  · exact ⟨3, 125, rfl, inferInstance, fun w1 hr => by simpa using c93 m a c w1 hr hz hm hb⟩
  · exact ⟨4, 126, rfl, inferInstance, fun w1 hr => by simpa using c94 hU m a c w1 hr hz hm hb hK⟩
theorem rule_none (m : Msg) (h : ¬ (1 ≤ m.kind ∧ m.kind ≤ 5)) : findI m.kind ruleL 0 = none := by
  have : ∀ x ∈ [1, 2, 3, 4, 5], m.kind ≠ x := by intro x hx; simp at hx; omega
  simp [findI, ruleL, this 1, this 2, this 3, this 4, this 5]

set_option maxHeartbeats 2000000 in
theorem c17 {K : Nat} (hU : UnpC 110 K) (m : Msg) (a : Option Addr) (c : Nat) (w : World) (hr : Rd w a (bv m.body)) (hz : a = none → c = 0) (hm : m.body.length ≤ 140737488355328) (hb : Byt m.body) (hK : m.body.length ≤ 160 → m.body.length ≤ K) :
    CallsTo Tryz.prog 86 [m.val a c] w fun v w' => v = .int .i64 (checkM (unpackF K) m) ∧ Grew w w' := by
  refine go_in (n := 54) (St.rd1 hr) Tryz.func86 rfl rfl ?_
  repeat'(first|(apply CW.reg_held (St w NoF [.own _ (.cells (m.cells a c).toArray 28 (0, 0)), rdA a (bv m.body)]); apply DW.quiet [1, 2]; (· kernel_rfl); (· exact fun _ h => h))|refine kv' ?_|apply jJ|refine jE' ?_|refine jp' ?_|(apply jc;kernel_rfl)|refine kg' ?_|refine kG' ?_|refine kB' fun _=>?_|refine kA' fun _=>?_|refine kK' fun _=>?_|refine kU' ?_|((first|refine kR' ?_ ?_|refine kQ' ?_ ?_);all_goals(intro hc;try simp only[hcs]at hc;try(exfalso;first|contradiction|omega))))
  · (apply ret1; (· exact rfl); intro w' hS)
    refine ⟨congrArg (Value.int .i64) ?_, hS.toKeep⟩
    unfold checkM; rw [if_pos (by omega)]
  rename _ => h160
  repeat'(first|refine yv' ?_|refine uv' ?_|refine un' ?_|apply QL.nil)
  apply DW.loud 0; (· exact rfl); (· kernel_rfl)
  apply LR.call
  · exact rfl
  intro w1 h1
  refine (c58 w1).mono ?_
  rintro v w2 ⟨bm, rfl, hn⟩
  refine LR.back (h1.got hn (Asrt.dep_own _ _)) ?_
  clear hn h1
  apply LR.nil
  refine At.stage (fun _ h => h.tail1) (fun _ h => h) ?_
  apply DW.quiet [3, 4, 5, 6, 7, 8]; (· kernel_rfl); (· exact fun _ h => h)
  have hKK := hK (by omega)
  by_cases hk : 1 ≤ m.kind ∧ m.kind ≤ 5
  · obtain ⟨j, g, hf, hown, hrule⟩ := rule_known hU m a c hk.1 hk.2 hz hm hb hKK
    repeat'(first|refine yv' ?_|(apply QL.ev; (· exact rfl); (· apply Ev.lookup_ok; (· exact rfl); (· exact rfl); (· exact List.Mem.head _); (· exact hf)); (· exact rfl))|refine uv' ?_|refine un' ?_|apply QL.nil)
    apply DW.done_thn
    · kernel_rfl
    repeat'(first|refine kv' ?_|apply jJ|refine jE' ?_|refine jp' ?_|(apply jc;kernel_rfl)|refine kg' ?_|refine kG' ?_|refine kB' fun _=>?_|refine kA' fun _=>?_|refine kK' fun _=>?_|refine kU' ?_|(apply kq;(·exact rfl);(·intro w1 h1;exact CallsTo.q (c59 _ _ _ w1) h1))|(apply kq;(·exact rfl);(·intro w1 h1;exact CallsTo.q (c60 _ _ _ _ w1) h1))|(apply LR.qcall_fn (g := g); (· exact rfl); (· exact rfl); (· intro w1 h1; have hq := CallsTo.q (hrule w1 (h1.rd_of (List.Mem.tail _ (List.Mem.tail _ (List.Mem.head _))))) h1; show CallsTo Tryz.prog g [m.val a c] w1 _; exact hq))|((first|refine kR' ?_ ?_|refine kQ' ?_ ?_);all_goals(intro hc;try simp only[hcs]at hc;try(exfalso;first|contradiction|omega))))
    all_goals (
      (apply ret1; (· exact rfl); intro w' hS)
      refine ⟨congrArg (Value.int .i64) ?_, hS.toKeep⟩
      unfold checkM mayB
      rw [if_neg (by omega)]
      simp [*])
  · have hf := rule_none m hk
    repeat'(first|refine yv' ?_|(apply QL.ev; (· exact rfl); (· apply Ev.lookup_ok; (· exact rfl); (· exact rfl); (· exact List.Mem.head _); (· exact hf)); (· exact rfl))|refine uv' ?_|refine un' ?_|apply QL.nil)
    apply DW.done_thn
    · kernel_rfl
    repeat'(first|refine kv' ?_|apply jJ|refine jE' ?_|refine jp' ?_|(apply jc;kernel_rfl)|refine kg' ?_|refine kG' ?_|refine kB' fun _=>?_|refine kA' fun _=>?_|refine kK' fun _=>?_|refine kU' ?_|((first|refine kR' ?_ ?_|refine kQ' ?_ ?_);all_goals(intro hc;try simp only[hcs]at hc;try(exfalso;first|contradiction|omega))))
    all_goals (
      (apply ret1; (· exact rfl); intro w' hS)
      refine ⟨congrArg (Value.int .i64) ?_, hS.toKeep⟩
      unfold checkM mayB
      rw [if_neg (by omega)]
      simp [*])
end Go.Proofs.YtkolmkdbjagfcaaGreat

namespace Go.Proofs.YtkolmkdbjagfcaaGreat
open Go.Hb
attribute [local irreducible] LR CW At Ev thn blk finK noG again CallsTo DW QL dnext
set_option maxRecDepth 100000

theorem front_perm {α : Type} : ∀ (L : List α) (i : Nat) (hi : i < L.length), L.Perm (L[i] :: L.eraseIdx i)
  | x :: r, 0, _ => List.Perm.refl _
  | x :: r, i + 1, hi => ((front_perm r i (by simpa using hi)).cons x).trans (List.Perm.swap _ _ _)
theorem front {w0 w : World} {F : Nat → Prop} {L L' : List Asrt} (h : St w0 F L w) (i : Nat) (hi : Nat.blt i L.length = true) (e : L[i]'(blt_lt hi) :: L.eraseIdx i = L') : St w0 F L' w := (h.perm (front_perm L i (blt_lt hi))).cast e
theorem decF_pos : ∀ k i acc l, (decF k i acc l).2.2 = 0 → i + 1 ≤ (decF k i acc l).2.1
  | 0, i, acc, l => by simp [decF]
  | k + 1, i, acc, [] => by simp [decF]
  | k + 1, i, acc, x :: r => by
    unfold decF
    split
    · split
      · simp
      · simp
    · intro h
      have := decF_pos k (i + 1) (acc + x.toNat % 128 * 128 ^ i) r h
      omega
theorem octs_facts {most : Int} {l : List Int} (h : (octs most l).2.1 = 0) : (octs most l).1.length < l.length ∧ ∀ b ∈ (octs most l).1, b ∈ l := by
  unfold octs at *
  split at h
  · rename_i h0; exact (h0 h).elim
  · rename_i h0
    have hp := decF_pos 8 0 0 l (by simpa [dec] using h0)
    have hl := dec_le l
    split at h
    · cases h
    · split at h
      · cases h
      · rename_i h1 h2
        have hp' : 1 ≤ (dec l).2.1 := by have : (dec l).2.1 = (decF 8 0 0 l).2.1 := rfl; omega
        rw [if_neg h0, if_neg h1, if_neg h2]
        refine ⟨by simp; omega, fun b hb => List.mem_of_mem_drop (List.mem_of_mem_take hb)⟩
def T2 (bm : Nat) (hd : List Value) (vs : List Int) : Asrt := .own bm (.cells (hd ++ iv vs ++ zz (4 - vs.length) ++ [Value.slice none 0 0]).toArray 28 (0, 0))
theorem T2_stores (bm : Nat) (hd : List Value) (h8 : hd.length = 8) (vs : List Int) (x : Int) (hi : vs.length < 4) : Stores Tryz.prog 3 ⟨bm, 8 + vs.length, none⟩ (.int .i64 x) (T2 bm hd vs) (T2 bm hd (vs ++ [x])) := by
  have e2 : zz (4 - vs.length) = .int .i64 0 :: zz (4 - (vs ++ [x]).length) := by
    rw [show 4 - vs.length = (4 - (vs ++ [x]).length) + 1 by simp; omega]; rfl
  have st := Stores.own (P := Tryz.prog) (T := 3) (m := 1) (b := bm) (o := 8 + vs.length) (v := .int .i64 x) (cs := (hd ++ iv vs) ++ .int .i64 0 :: (zz (4 - (vs ++ [x]).length) ++ [Value.slice none 0 0])) (vs := [.int .i64 x]) (E := 28) inferInstance rfl rfl rfl (by simp [h8]; omega)
  rw [splice_mid _ _ _ _ (by simp [h8])] at st
  unfold T2
  rw [e2]
  simpa [iv] using st
def tail6 : List Value := [.bool false, .int .i64 0, .int .i64 0, .int .i64 0, .int .i64 0, .slice none 0 0]
def T1 (bm bs : Nat) (vs : List Int) : Asrt := both (.own bm (.cells (iv (vs.take 7) ++ zz (7 - vs.length) ++ tail6).toArray 28 (0, 0))) (.own bs (.cells [.int .i64 (vs.getD 7 0)].toArray 3 (0, 0)))

theorem T1_stores (bm bs : Nat) (vs : List Int) (x : Int) (hi : vs.length < 8) : Stores Tryz.prog 3 (if vs.length < 7 then ⟨bm, vs.length, none⟩ else ⟨bs, 0, none⟩) (.int .i64 x) (T1 bm bs vs) (T1 bm bs (vs ++ [x])) := by
  by_cases h7 : vs.length < 7
  · rw [if_pos h7]
    have e2 : zz (7 - vs.length) = .int .i64 0 :: zz (7 - (vs ++ [x]).length) := by
      rw [show 7 - vs.length = (7 - (vs ++ [x]).length) + 1 by simp; omega]; rfl
    have st := Stores.own (P := Tryz.prog) (T := 3) (m := 1) (b := bm) (o := vs.length) (v := .int .i64 x) (cs := iv vs ++ .int .i64 0 :: (zz (7 - (vs ++ [x]).length) ++ tail6)) (vs := [.int .i64 x]) (E := 28) inferInstance rfl rfl rfl (by simp)
    rw [splice_mid _ _ _ _ (by simp)] at st
    have st2 := Stores.left (y := .own bs (.cells [.int .i64 0].toArray 3 (0, 0))) st (Asrt.dep_own _ _)
    unfold T1
    have g1 : vs.getD 7 0 = 0 := by simp [List.getD_eq_getElem?_getD, List.getElem?_eq_none (show vs.length ≤ 7 by omega)]
    have g2 : (vs ++ [x]).getD 7 0 = 0 := by simp [List.getD_eq_getElem?_getD, List.getElem?_eq_none (show (vs ++ [x]).length ≤ 7 by simp; omega)]
    rw [g1, g2, List.take_of_length_le (by omega), List.take_of_length_le (by simp; omega), e2]
    simpa [iv] using st2
  · rw [if_neg h7]
    have h8 : vs.length = 7 := by omega
    have st := Stores.own (P := Tryz.prog) (T := 3) (m := 1) (b := bs) (o := 0) (v := .int .i64 x) (cs := [.int .i64 (vs.getD 7 0)]) (vs := [.int .i64 x]) (E := 3) inferInstance rfl rfl rfl (by simp)
    have st2 := Stores.right (x := .own bm (.cells (iv (vs.take 7) ++ zz (7 - vs.length) ++ tail6).toArray 28 (0, 0))) st (Asrt.dep_own _ _)
    unfold T1
    have g2 : (vs ++ [x]).getD 7 0 = x := by simp [List.getD_eq_getElem?_getD, ← h8]
    have g3 : (vs ++ [x]).take 7 = vs.take 7 := by rw [List.take_append_of_le_length (by omega)]
    have g4 : zz (7 - (vs ++ [x]).length) = zz (7 - vs.length) := by simp [h8]
    rw [g2, g3, g4]
    simpa [splice] using st2

set_option maxHeartbeats 2000000 in
theorem c23 {ck : Msg → Int} (l : List Int) (hck : ∀ (m : Msg) (a : Option Addr) (c : Nat) (w : World), Rd w a (bv m.body) → (a = none → c = 0) → Byt m.body → m.body.length < l.length → CallsTo Tryz.prog 86 [m.val a c] w fun v w' => v = .int .i64 (ck m) ∧ Grew w w')
    (a : Option Addr) (ca : Nat) (w : World) (hr : Rd w a (bv l)) (hz : a = none → ca = 0) (hm : l.length ≤ 140737488355328) (hb : Byt l) :
    CallsTo Tryz.prog 110 [.slice a l.length ca] w fun v w' => ∃ a2 c2, v = .tuple [(unpackW ck l).1.val a2 c2, .int .i64 (unpackW ck l).2].toArray ∧ NewSl w w' (.slice a2 (unpackW ck l).1.body.length c2) 5 1 (unpackW ck l).1.body.length (bv (unpackW ck l).1.body) := by
  refine go_in (n := 68) (St.rd1 hr) Tryz.func110 rfl rfl ?_
  have nils : ∀ w', Grew w w' → NewSl w w' (.slice none 0 0) 5 1 0 (bv []) := fun w' hg => ⟨hg, World.ownsRow_nil _ _ _ _⟩
  repeat'(first|refine kv' ?_|apply jJ|refine jE' ?_|refine jp' ?_|(apply jc;kernel_rfl)|refine kg' ?_|refine kG' ?_|refine kB' fun _=>?_|refine kA' fun _=>?_|refine kK' fun _=>?_|refine kU' ?_|(apply LR.call; (· exact rfl); (intro w1 h1; refine (c65 a ca l w1 (h1.rd_of (List.Mem.tail _ (List.Mem.tail _ (List.Mem.tail _ (List.Mem.head _))))) hz hm).mono ?_; rintro v w2 ⟨br, a1, c1, rfl, hn⟩; refine LR.back (h1.got hn (rrA_dep _ _ _ _ _ _)) ?_; clear hn h1))|((first|refine kR' ?_ ?_|refine kQ' ?_ ?_);all_goals(intro hc;try simp only[hcs]at hc;try(exfalso;first|contradiction|omega))))
  apply LR.call
  · exact rfl
  intro w1 h1
  rename_i b2 bm bs _ bp
  have h2 := (front (front h1 2 rfl rfl) 3 rfl rfl).join rfl rfl
  have h3 := ((front h2 2 rfl rfl).join rfl rfl).cast (L' := [both (rrA 142 [.bool true] br a1 c1 l) (T1 bm bs []), _, _, _]) rfl
  clear h1 h2
  refine (c66m (m := 8) (ads := [⟨bm, 0 + 0, none⟩, ⟨bm, 0 + 1, none⟩, ⟨bm, 0 + 2, none⟩, ⟨bm, 0 + 3, none⟩, ⟨bm, 0 + 4, none⟩, ⟨bm, 0 + 5, none⟩, ⟨bm, 0 + 6, none⟩, ⟨bs, 0, none⟩]) (T := T1 bm bs) h3 rfl ?_ (fun _ => rfl) (fun _ => both_dep (Asrt.dep_own _ _) (Asrt.dep_own _ _)) hb (by omega) (by omega)).mono ?_
  · intro vs x hi
    have e : ∀ k (hk : k < 8), ([⟨bm, 0 + 0, none⟩, ⟨bm, 0 + 1, none⟩, ⟨bm, 0 + 2, none⟩, ⟨bm, 0 + 3, none⟩, ⟨bm, 0 + 4, none⟩, ⟨bm, 0 + 5, none⟩, ⟨bm, 0 + 6, none⟩, ⟨bs, 0, none⟩] : List Addr)[k] = if k < 7 then ⟨bm, k, none⟩ else ⟨bs, 0, none⟩ := by
      intro k hk
      match k, hk with
      | 0, _ => rfl
      | 1, _ => rfl
      | 2, _ => rfl
      | 3, _ => rfl
      | 4, _ => rfl
      | 5, _ => rfl
      | 6, _ => rfl
      | 7, _ => rfl
    rw [e _ hi]
    exact T1_stores bm bs vs x hi
  rintro v w2 ⟨a2, c2, rfl, st⟩
  refine LR.back st ?_
  clear st h3
  have hl8 := decs_len 8 l
  have hbd8 := decs_bound 8 l
  repeat'(first|refine kv' ?_|apply jJ|refine jE' ?_|refine jp' ?_|(apply jc;kernel_rfl)|refine kg' ?_|refine kG' ?_|refine kB' fun _=>?_|refine kA' fun _=>?_|refine kK' fun _=>?_|refine kU' ?_|((first|refine kR' ?_ ?_|refine kQ' ?_ ?_);all_goals(intro hc;try simp only[hcs]at hc;try(exfalso;first|contradiction|omega))))
  · (apply ret2c; (· exact rfl); (· exact inferInstance); (· exact rfl); (· (repeat (first | exact List.Mem.head _ | apply List.Mem.tail))); (· exact rfl); intro w' hS)
    have e : unpackW ck l = (zeroMsg, (decs 8 l).2.1) := by unfold unpackW; rw [if_pos hc]
    rw [e]
    exact ⟨none, 0, rfl, nils w' hS.toKeep⟩
  rename (decs 8 l).2.1 = 0 => he8
  obtain ⟨v0, v1, v2, v3, v4, v5, v6, v7, hv⟩ : ∃ v0 v1 v2 v3 v4 v5 v6 v7, (decs 8 l).1 = [v0, v1, v2, v3, v4, v5, v6, v7] := by
    have := hl8.2 he8
    match hx : (decs 8 l).1, this with
    | [a, b, c, d, e, f, g, h], _ => exact ⟨a, b, c, d, e, f, g, h, rfl⟩
  rw [hv] at hbd8 ⊢
  refine LR.sub (D := St w NoF [.own bm (.cells [.int .i64 v0, .int .i64 v1, .int .i64 v2, .int .i64 v3, .int .i64 v4, .int .i64 v5, .int .i64 v6, .bool false, .int .i64 0, .int .i64 0, .int .i64 0, .int .i64 0, .slice none 0 0].toArray 28 (0, 0)), .own bs (.cells [.int .i64 v7].toArray 3 (0, 0)), _, _, _, _]) (fun w hw => ((front hw 1 rfl rfl).part (Asrt.dep_own _ _) (Asrt.dep_own _ _)).cast rfl) ?_
  have ck1 : ∀ {α : Type} {x y z : α}, (if (decs 8 l).2.1 ≠ 0 then x else y) = y := fun {α x y z} => if_neg (by simpa using he8)
  repeat'(first|refine kv' ?_|apply jJ|refine jE' ?_|refine jp' ?_|(apply jc;kernel_rfl)|refine kg' ?_|refine kG' ?_|refine kB' fun _=>?_|refine kA' fun _=>?_|refine kK' fun _=>?_|refine kU' ?_|((first|refine kR' ?_ ?_|refine kQ' ?_ ?_);all_goals(intro hc;try simp only[hcs]at hc;try(exfalso;first|contradiction|omega))))
  · (apply ret2c; (· exact rfl); (· exact inferInstance); (· exact rfl); (· (repeat (first | exact List.Mem.head _ | apply List.Mem.tail))); (· exact rfl); intro w' hS)
    have e : unpackW ck l = (zeroMsg, 4) := by unfold unpackW; rw [if_neg (by simpa using he8), hv, if_pos (show 1 < [v0, v1, v2, v3, v4, v5, v6, v7].getD 7 0 from hc)]
    rw [e]
    exact ⟨none, 0, rfl, nils w' hS.toKeep⟩
  apply LR.call
  · exact rfl
  intro w1 h1
  rename_i bq
  have h3 : St w NoF [rrA 142 [.bool true] br a2 c2 (decs 8 l).2.2, T2 bm [.int .i64 v0, .int .i64 v1, .int .i64 v2, .int .i64 v3, .int .i64 v4, .int .i64 v5, .int .i64 v6, .bool (decide (v7 = 1))] [], _, _, _, _, _] w1 := front (front h1 1 rfl rfl) 3 rfl rfl
  have h4 := h3.join rfl rfl
  clear h1 h3
  refine (c66m (m := 4) (ads := [⟨bm, 0 + 8 + 0, none⟩, ⟨bm, 0 + 8 + 1 + 0, none⟩, ⟨bm, 0 + 8 + 1 + 1, none⟩, ⟨bm, 0 + 8 + 3, none⟩]) (T := T2 bm [.int .i64 v0, .int .i64 v1, .int .i64 v2, .int .i64 v3, .int .i64 v4, .int .i64 v5, .int .i64 v6, .bool (decide (v7 = 1))]) h4 rfl ?_ (fun _ => rfl) (fun _ => Asrt.dep_own _ _) (decs_rest_byt 8 hb) (by have := decs_rest_len 8 l; omega) (by omega)).mono ?_
  · intro vs x hi
    have e : ∀ k (hk : k < 4), ([⟨bm, 0 + 8 + 0, none⟩, ⟨bm, 0 + 8 + 1 + 0, none⟩, ⟨bm, 0 + 8 + 1 + 1, none⟩, ⟨bm, 0 + 8 + 3, none⟩] : List Addr)[k] = ⟨bm, 8 + k, none⟩ := by
      intro k hk
      match k, hk with
      | 0, _ => rfl
      | 1, _ => rfl
      | 2, _ => rfl
      | 3, _ => rfl
    rw [e _ hi]
    exact T2_stores bm _ rfl vs x hi
  rintro v w2 ⟨a3, c3, rfl, st⟩
  refine LR.back st ?_
  clear st h4
  repeat'(first|refine kv' ?_|apply jJ|refine jE' ?_|refine jp' ?_|(apply jc;kernel_rfl)|refine kg' ?_|refine kG' ?_|refine kB' fun _=>?_|refine kA' fun _=>?_|refine kK' fun _=>?_|refine kU' ?_|((first|refine kR' ?_ ?_|refine kQ' ?_ ?_);all_goals(intro hc;try simp only[hcs]at hc;try(exfalso;first|contradiction|omega))))
  · rename (decs 4 (decs 8 l).2.2).2.1 = 0 => he4
    obtain ⟨x0, x1, x2, x3, hx⟩ := four ((decs_len 4 (decs 8 l).2.2).2 he4)
    have hrb : Byt (decs 4 (decs 8 l).2.2).2.2 := decs_rest_byt 4 (decs_rest_byt 8 hb)
    have hrl : (decs 4 (decs 8 l).2.2).2.2.length ≤ l.length := Nat.le_trans (decs_rest_len 4 _) (decs_rest_len 8 l)
    have eu : unpackW ck l = if (octs 160 (decs 4 (decs 8 l).2.2).2.2).2.1 ≠ 0 then (zeroMsg, (octs 160 (decs 4 (decs 8 l).2.2).2.2).2.1)
        else if 0 < (octs 160 (decs 4 (decs 8 l).2.2).2.2).2.2.length ∨ ck (msgOf [v0, v1, v2, v3, v4, v5, v6, v7] [x0, x1, x2, x3] (octs 160 (decs 4 (decs 8 l).2.2).2.2).1) ≠ 0 then (zeroMsg, 4)
        else (msgOf [v0, v1, v2, v3, v4, v5, v6, v7] [x0, x1, x2, x3] (octs 160 (decs 4 (decs 8 l).2.2).2.2).1, 0) := by
      rename v7 ≤ 1 => h7
      unfold unpackW
      rw [if_neg (by simpa using he8), hv, if_neg (show ¬ 1 < [v0, v1, v2, v3, v4, v5, v6, v7].getD 7 0 from Int.not_lt.2 h7), if_neg (by simpa using he4), hx]
    rw [eu, hx]
    clear eu hx hl8
    generalize (decs 4 (decs 8 l).2.2).2.2 = lr at *
    refine LR.sub (D := St w NoF [.own bm (.cells [.int .i64 v0, .int .i64 v1, .int .i64 v2, .int .i64 v3, .int .i64 v4, .int .i64 v5, .int .i64 v6, .bool (decide (v7 = 1)), .int .i64 x0, .int .i64 x1, .int .i64 x2, .int .i64 x3, .slice none 0 0].toArray 28 (0, 0)), rrA 142 [.bool true] br a3 c3 lr, _, _, _, _, _]) (fun w hw => (front hw 1 rfl rfl).cast rfl) ?_
    repeat'(first|refine kv' ?_|apply jJ|refine jE' ?_|refine jp' ?_|(apply jc;kernel_rfl)|refine kg' ?_|refine kG' ?_|refine kB' fun _=>?_|refine kA' fun _=>?_|refine kK' fun _=>?_|refine kU' ?_|(apply LR.call; (· exact rfl); (intro w1 h1; refine (c67 br a3 c3 lr 160 w1 (h1.holds _ (List.Mem.tail _ (List.Mem.head _))) hrb (by omega)).mono ?_; rintro v w2 ⟨a4, c4, a5, c5, rfl, st⟩; refine LR.back (h1.did1 (Sel.tail _ (Sel.head _ _ _)) rfl rfl rfl st) ?_; clear st h1))|(apply LR.qcall; (· exact rfl); (· intro w1 h1; exact CallsTo.q (c68 br _ _ _ w1 (h1.holds _ (List.Mem.tail _ (List.Mem.tail _ (List.Mem.head _))))) h1))|(apply LR.qcall; (· exact rfl); (· intro w1 h1; have ho : (octs 160 lr).2.1 = 0 := by assumption; have hof := octs_facts ho; have hq := CallsTo.q (hck (msgOf [v0, v1, v2, v3, v4, v5, v6, v7] [x0, x1, x2, x3] (octs 160 lr).1) a5 c5 w1 (h1.rd_of_own (List.Mem.head _)) (fun e => (ownsRow_some (h1.holds _ (List.Mem.head _)) e).2) (fun b hb' => hrb b (hof.2 b hb')) (Nat.lt_of_lt_of_le hof.1 hrl)) h1; show CallsTo Tryz.prog 86 [(msgOf [v0, v1, v2, v3, v4, v5, v6, v7] [x0, x1, x2, x3] (octs 160 lr).1).val a5 c5] w1 _; exact hq))|((first|refine kR' ?_ ?_|refine kQ' ?_ ?_);all_goals(intro hc;try simp only[hcs]at hc;try(exfalso;first|contradiction|omega))))
    · (apply ret2c; (· exact rfl); (· exact inferInstance); (· exact rfl); (· (repeat (first | exact List.Mem.head _ | apply List.Mem.tail))); (· exact rfl); intro w' hS)
      rw [if_pos (by assumption)]
      exact ⟨none, 0, rfl, nils w' hS.toKeep⟩
    · (apply ret2c; (· exact rfl); (· exact inferInstance); (· exact rfl); (· (repeat (first | exact List.Mem.head _ | apply List.Mem.tail))); (· exact rfl); intro w' hS)
      rw [if_neg (by simpa using (by assumption : (octs 160 lr).2.1 = 0)), if_pos (.inl (by omega))]
      exact ⟨none, 0, rfl, nils w' hS.toKeep⟩
    have ho : (octs 160 lr).2.1 = 0 := by assumption
    have hof := octs_facts ho
    apply LR.qcall
    · exact rfl
    · intro w1 h1
      have hq := CallsTo.q (hck (msgOf [v0, v1, v2, v3, v4, v5, v6, v7] [x0, x1, x2, x3] (octs 160 lr).1) a5 c5 w1 (h1.rd_of_own (List.Mem.head _)) (fun e => (ownsRow_some (h1.holds _ (List.Mem.head _)) e).2) (fun b hb' => hrb b (hof.2 b hb')) (Nat.lt_of_lt_of_le hof.1 hrl)) h1
      show CallsTo Tryz.prog 86 [(msgOf [v0, v1, v2, v3, v4, v5, v6, v7] [x0, x1, x2, x3] (octs 160 lr).1).val a5 c5] w1 _
      exact hq
    repeat'(first|refine kv' ?_|apply jJ|refine jE' ?_|refine jp' ?_|(apply jc;kernel_rfl)|refine kg' ?_|refine kG' ?_|refine kB' fun _=>?_|refine kA' fun _=>?_|refine kK' fun _=>?_|refine kU' ?_|((first|refine kR' ?_ ?_|refine kQ' ?_ ?_);all_goals(intro hc;try simp only[hcs]at hc;try(exfalso;first|contradiction|omega))))
    · (apply ret2c; (· exact rfl); (· exact inferInstance); (· exact rfl); (· (repeat (first | exact List.Mem.head _ | apply List.Mem.tail))); (· exact rfl); intro w' hS)
      rw [if_neg (by simpa using ho), if_pos (.inr (by assumption))]
      exact ⟨none, 0, rfl, nils w' hS.toKeep⟩
    · rename ck _ = 0 => hck0
      (apply ret2c; (· exact rfl); (· exact inferInstance); (· exact rfl); (· (repeat (first | exact List.Mem.head _ | apply List.Mem.tail))); (· exact rfl); intro w' hS)
      rw [if_neg (by simpa using ho), if_neg (by simp only [not_or, Nat.not_lt]; exact ⟨by omega, by simpa using hck0⟩)]
      exact ⟨a5, c5, rfl, hS.toNew (List.Mem.head _)⟩
  · (apply ret2c; (· exact rfl); (· exact inferInstance); (· exact rfl); (· (repeat (first | exact List.Mem.head _ | apply List.Mem.tail))); (· exact rfl); intro w' hS)
    rename v7 ≤ 1 => h7
    have e : unpackW ck l = (zeroMsg, (decs 4 (decs 8 l).2.2).2.1) := by unfold unpackW; rw [if_neg (by simpa using he8), hv, if_neg (show ¬ 1 < [v0, v1, v2, v3, v4, v5, v6, v7].getD 7 0 from Int.not_lt.2 h7), if_pos (by assumption)]
    rw [e]
    exact ⟨none, 0, rfl, nils w' hS.toKeep⟩
end Go.Proofs.YtkolmkdbjagfcaaGreat

namespace Go.Proofs.YtkolmkdbjagfcaaGreat
open Go.Hb
attribute [local irreducible] LR CW At Ev thn blk finK noG again CallsTo DW QL dnext
set_option maxRecDepth 100000

theorem unp_all : ∀ K, UnpC 110 K
  | 0 => fun a ca l w hr hz hm hb hK => c23 (ck := fun _ => 2) l (fun m a c w _ _ _ h => by omega) a ca w hr hz hm hb
  | K + 1 => fun a ca l w hr hz hm hb hK => c23 (ck := checkM (unpackF K)) l (fun m a c w h1 h2 h3 h4 => c17 (unp_all K) m a c w h1 h2 (by omega) h3 (fun _ => by omega)) a ca w hr hz hm hb

theorem unpackW_congr {ck ck' : Msg → Int} {l : List Int} (h : ∀ m : Msg, m.body.length < l.length → ck m = ck' m) : unpackW ck l = unpackW ck' l := by
  unfold unpackW
  by_cases h1 : (decs 8 l).2.1 = 0
  · by_cases h2 : (decs 4 (decs 8 l).2.2).2.1 = 0
    · by_cases h3 : (octs 160 (decs 4 (decs 8 l).2.2).2.2).2.1 = 0
      · have hl := (octs_facts h3).1
        have hrl : (decs 4 (decs 8 l).2.2).2.2.length ≤ l.length := Nat.le_trans (decs_rest_len 4 _) (decs_rest_len 8 l)
        rw [h (msgOf (decs 8 l).1 (decs 4 (decs 8 l).2.2).1 (octs 160 (decs 4 (decs 8 l).2.2).2.2).1) (Nat.lt_of_lt_of_le hl hrl)]
      · simp only [h3, ne_eq, not_false_eq_true, if_true]
    · simp only [h2, ne_eq, not_false_eq_true, if_true]
  · simp only [h1, ne_eq, not_false_eq_true, if_true]
theorem checkM_congr {u u' : List Int → Msg × Int} {m : Msg} (h : u m.body = u' m.body) : checkM u m = checkM u' m := by
  unfold checkM mayB kindB oldB
  rw [h]
theorem unpackF_same : ∀ (K K' : Nat) (l : List Int), l.length ≤ K → l.length ≤ K' → unpackF K l = unpackF K' l
  | 0, K', l, h, _ => by
    cases K' with
    | zero => rfl
    | succ k => exact unpackW_congr fun m hm => by omega
  | K + 1, 0, l, _, h => unpackW_congr fun m hm => by omega
  | K + 1, K' + 1, l, h, h' => unpackW_congr fun m hm => checkM_congr (unpackF_same K K' m.body (by omega) (by omega))
def unpack (l : List Int) : Msg × Int := unpackF l.length l
def check (m : Msg) : Int := checkM unpack m
theorem check_of {K : Nat} {m : Msg} (h : m.body.length ≤ K) : checkM (unpackF K) m = check m := checkM_congr (unpackF_same K _ m.body h (Nat.le_refl _))
theorem unpack_eq (l : List Int) : unpack l = unpackW check l := by
  unfold unpack
  rw [unpackF_same l.length (l.length + 1) l (Nat.le_refl _) (Nat.le_succ _)]
  exact unpackW_congr fun m hm => check_of (by omega)

theorem d23 (a : Option Addr) (ca : Nat) (l : List Int) (w : World) (hr : Rd w a (bv l)) (hz : a = none → ca = 0) (hm : l.length ≤ 140737488355328) (hb : Byt l) :
    CallsTo Tryz.prog 110 [.slice a l.length ca] w fun v w' => ∃ a2 c2, v = .tuple [(unpack l).1.val a2 c2, .int .i64 (unpack l).2].toArray ∧ NewSl w w' (.slice a2 (unpack l).1.body.length c2) 5 1 (unpack l).1.body.length (bv (unpack l).1.body) :=
  unp_all l.length a ca l w hr hz hm hb (Nat.le_refl _)
theorem d17 (m : Msg) (a : Option Addr) (c : Nat) (w : World) (hr : Rd w a (bv m.body)) (hz : a = none → c = 0) (hm : m.body.length ≤ 140737488355328) (hb : Byt m.body) :
    CallsTo Tryz.prog 86 [m.val a c] w fun v w' => v = .int .i64 (check m) ∧ Grew w w' := by
  have := c17 (unp_all m.body.length) m a c w hr hz hm hb (fun _ => Nat.le_refl _)
  rwa [check_of (Nat.le_refl _)] at this
end Go.Proofs.YtkolmkdbjagfcaaGreat

namespace Go.Proofs.YtkolmkdbjagfcaaGreat
open Go.Hb
attribute [local irreducible] LR CW At Ev thn blk finK noG again CallsTo DW QL dnext
set_option maxRecDepth 100000

set_option maxHeartbeats 2000000 in
theorem c64 {K : Nat} (hU : UnpC 102 K) (m : Msg) (a : Option Addr) (c : Nat) (w : World) (hr : Rd w a (bv m.body)) (hz : a = none → c = 0) (hm : m.body.length ≤ 140737488355328) (hb : Byt m.body) (hK : m.body.length ≤ K) :
    CallsTo Tryz.prog 93 [m.val a c] w fun v w' => v = .bool (kindB (unpackF K) m) ∧ Grew w w' := by
  refine go_in (n := 139) (St.rd1 hr) Tryz.func93 rfl rfl ?_
  repeat'(first|refine kv' ?_|apply jJ|refine jE' ?_|refine jp' ?_|(apply jc;kernel_rfl)|refine kg' ?_|refine kG' ?_|refine kB' fun _=>?_|refine kA' fun _=>?_|refine kK' fun _=>?_|refine kU' ?_|(apply LR.call; (· exact rfl); (intro w1 h1; first | (refine (c26 a c m.body w1 (h1.rd_of (List.Mem.tail _ (List.Mem.head _))) hz hm hb).mono ?_; rintro v w2 ⟨a2, c2, rfl, hn⟩; refine LR.back (h1.newSl hn) ?_; clear hn h1) | (refine (hU a c m.body w1 (h1.rd_of (List.Mem.tail _ (List.Mem.head _))) hz hm hb hK).mono ?_; rintro v w2 ⟨a2, c2, rfl, hn⟩; refine LR.back (h1.newSl hn) ?_; clear hn h1)))|(apply LR.qcall; (· exact rfl); (· intro w1 h1; first | (have hq := CallsTo.q (c98 m a c w1) h1; show CallsTo Tryz.prog 116 [m.val a c] w1 _; exact hq) | exact CallsTo.q (c61 m.id w1) h1))|((first|refine kR' ?_ ?_|refine kQ' ?_ ?_);all_goals(intro hc;try simp only[hcs]at hc;try(exfalso;first|contradiction|omega))))
  all_goals (
    (apply ret1; (· exact rfl); intro w' hS)
    refine ⟨congrArg Value.bool ?_, hS.toKeep⟩
    clear hS)
  all_goals clear hr hU hz hb hm hK
  all_goals (first
    | (simp_all [kindB, textB, emptyB, wantB, chartB, oldB, withinB_iff]; done)
    | (rw [Bool.eq_iff_iff]; simp_all [kindB, textB, emptyB, wantB, chartB, oldB, withinB_iff]; done)
    | (rw [Bool.eq_iff_iff]; simp_all [kindB, textB, emptyB, wantB, chartB, oldB, withinB_iff]; omega)
    | (simp_all [kindB, textB, emptyB, wantB, chartB, oldB, withinB_iff]; omega)
    | (simp_all [kindB, textB, emptyB, wantB, chartB, oldB, withinB_iff]; intros; omega)
    | skip)

theorem kindB_range (u : List Int → Msg × Int) (m : Msg) (h : kindB u m = true) : 1 ≤ m.kind ∧ m.kind ≤ 5 := by
  unfold kindB at h
  repeat' split at h
  all_goals first | omega | cases h
set_option maxHeartbeats 2000000 in
theorem c18 {K : Nat} (hU : UnpC 102 K) (m : Msg) (a : Option Addr) (c : Nat) (w : World) (hr : Rd w a (bv m.body)) (hz : a = none → c = 0) (hm : m.body.length ≤ 140737488355328) (hb : Byt m.body) (hK : m.body.length ≤ 160 → m.body.length ≤ K) :
    CallsTo Tryz.prog 47 [m.val a c] w fun v w' => v = .int .i64 (checkM (unpackF K) m) ∧ Grew w w' := by
  refine go_in (n := 44) (St.rd1 hr) Tryz.func47 rfl rfl ?_
  repeat'(first|refine kv' ?_|apply jJ|refine jE' ?_|refine jp' ?_|(apply jc;kernel_rfl)|refine kg' ?_|refine kG' ?_|refine kB' fun _=>?_|refine kA' fun _=>?_|refine kK' fun _=>?_|refine kU' ?_|(apply LR.qcall; (· exact rfl); (· intro w1 h1; first | exact CallsTo.q (c61 m.origin w1) h1 | exact CallsTo.q (c62 m.life w1) h1 | exact CallsTo.q (c62 m.id w1) h1 | exact CallsTo.q (c63 _ _ _ _ w1) h1))|((first|refine kR' ?_ ?_|refine kQ' ?_ ?_);all_goals(intro hc;try simp only[hcs]at hc;try(exfalso;first|contradiction|omega))))
  rotate_right
  · have hl : m.body.length ≤ 160 := by omega
    apply LR.qcall
    · exact rfl
    · intro w1 h1
      have hq := CallsTo.q (c64 hU m a c w1 (h1.rd_of (List.Mem.tail _ (List.Mem.head _))) hz hm hb (hK hl)) h1
      show CallsTo Tryz.prog 93 [m.val a c] w1 _
      exact hq
    repeat'(first|refine kv' ?_|apply jJ|refine jE' ?_|refine jp' ?_|(apply jc;kernel_rfl)|refine kg' ?_|refine kG' ?_|refine kB' fun _=>?_|refine kA' fun _=>?_|refine kK' fun _=>?_|refine kU' ?_|((first|refine kR' ?_ ?_|refine kQ' ?_ ?_);all_goals(intro hc;try simp only[hcs]at hc;try(exfalso;first|contradiction|omega))))
    all_goals (
      (apply ret1; (· exact rfl); intro w' hS)
      refine ⟨congrArg (Value.int .i64) ?_, hS.toKeep⟩
      clear hS
      have hkr := kindB_range (unpackF K) m
      unfold checkM
      first
      | (rw [if_pos (by omega)])
      | (rw [if_neg (by omega)]; unfold mayB; simp_all [withinB_iff, numB_iff]; done)
      | (rw [if_neg (by omega)]; unfold mayB; simp_all [withinB_iff, numB_iff]; omega)
      | (rw [if_neg (by omega)]; unfold mayB; simp_all [withinB_iff, numB_iff]; intros; omega))
  all_goals (
    (apply ret1; (· exact rfl); intro w' hS)
    refine ⟨congrArg (Value.int .i64) ?_, hS.toKeep⟩
    clear hS
    unfold checkM
    first
    | (rw [if_pos (by omega)])
    | (rw [if_neg (by omega)]; unfold mayB; simp_all [withinB_iff, numB_iff]; done)
    | (rw [if_neg (by omega)]; unfold mayB; simp_all [withinB_iff, numB_iff]; omega)
    | (rw [if_neg (by omega)]; unfold mayB; simp_all [withinB_iff, numB_iff]; intros; omega))
end Go.Proofs.YtkolmkdbjagfcaaGreat

namespace Go.Proofs.YtkolmkdbjagfcaaGreat
open Go.Hb
attribute [local irreducible] LR CW At Ev thn blk finK noG again CallsTo DW QL dnext
set_option maxRecDepth 100000

def b2i (b : Bool) : Int := if b then 1 else 0
def msgNums (m : Msg) : List Int := [m.kind, m.origin, m.life, m.id, m.part, m.parts, m.groups, b2i m.safe, m.stamp, m.rseq, m.rrep, m.kseq]
def bytesM (m : Msg) : List Int := encs (msgNums m) ++ enc m.body.length ++ m.body
def pack (m : Msg) : List Int × Int := if check m ≠ 0 then ([], check m) else (bytesM m, 0)

theorem ring_ok {s r : Int} (h : ringB s r = true) : okN s ∧ okN r := by
  unfold ringB at h; rw [numB_iff] at h; unfold okN; simp at h; omega
theorem check_ok {m : Msg} (h : check m = 0) : m.body.length ≤ 160 ∧ mayB unpack m = true := by
  unfold check checkM at h
  split at h
  · cases h
  · split at h
    · exact ⟨by omega, by assumption⟩
    · cases h
theorem key_ok {t s r q : Int} (h : keyE t s r q = 0) : okN t ∧ okN s ∧ okN r ∧ okN q := by
  unfold keyE at h
  split at h
  · rename_i hk
    unfold keyB at hk; rw [numB_iff, numB_iff] at hk
    simp only [Bool.and_eq_true, decide_eq_true_eq] at hk
    have := ring_ok hk.2
    exact ⟨hk.1.1, this.1, this.2, hk.1.2⟩
  · cases h
theorem kind_parts {u : List Int → Msg × Int} {m : Msg} (h : kindB u m = true) : okN m.part ∧ okN m.parts := by
  have pl : plainB m = true → okN m.part ∧ okN m.parts := fun h => by unfold plainB at h; unfold okN; simp at h; omega
  unfold kindB at h
  repeat' split at h
  · unfold textB at h; unfold okN; simp at h; omega
  · unfold emptyB at h; simp only [Bool.and_eq_true] at h; exact pl h.1
  · unfold wantB emptyB at h; simp only [Bool.and_eq_true] at h; exact pl h.1.1
  · unfold chartB at h; simp only [Bool.and_eq_true] at h; exact pl h.1.1
  · unfold oldB at h; simp only [Bool.and_eq_true] at h; exact pl h.1
  · cases h
theorem msgNums_ok {m : Msg} (h : check m = 0) : ∀ x ∈ msgNums m, okN x := by
  obtain ⟨h1, h2⟩ := check_ok h
  unfold mayB at h2
  simp only [withinB_iff, Bool.and_eq_true, decide_eq_true_eq] at h2
  obtain ⟨⟨⟨⟨⟨⟨h3, h4⟩, h5⟩, h6⟩, h7⟩, h8⟩, h9⟩ := h2
  have hk := key_ok h8
  have hp := kind_parts h9
  have hs : okN (b2i m.safe) := by unfold okN b2i; split <;> omega
  intro x hx
  simp only [msgNums, List.mem_cons, List.not_mem_nil, or_false] at hx
  rcases hx with rfl | rfl | rfl | rfl | rfl | rfl | rfl | rfl | rfl | rfl | rfl | rfl
  · unfold okN; omega
  · unfold okN; omega
  · exact h5
  · exact h6
  · exact hp.1
  · exact hp.2
  · unfold okN; omega
  · exact hs
  · exact hk.1
  · exact hk.2.1
  · exact hk.2.2.1
  · exact hk.2.2.2
theorem bytesM_len (m : Msg) : (bytesM m).length ≤ 117 + m.body.length := by
  have h1 := encs_len (msgNums m)
  have h2 : (enc m.body.length).length ≤ 9 := encF_len 8 _
  have h3 : (msgNums m).length = 12 := rfl
  simp only [bytesM, List.length_append]; omega

set_option maxHeartbeats 2000000 in
theorem c15 (m : Msg) (a : Option Addr) (c : Nat) (w : World) (hr : Rd w a (bv m.body)) (hz : a = none → c = 0) (hm : m.body.length ≤ 140737488355328) (hb : Byt m.body) :
    CallsTo Tryz.prog 107 [m.val a c] w fun v w' => ∃ a2 c2, v = .tuple [.slice a2 (pack m).1.length c2, .int .i64 (pack m).2].toArray ∧ NewSl w w' (.slice a2 (pack m).1.length c2) 5 1 (pack m).1.length (bv (pack m).1) := by
  refine go_in (n := 61) (St.rd1 hr) Tryz.func107 rfl rfl ?_
  have nils : ∀ w', Grew w w' → NewSl w w' (.slice none 0 0) 5 1 0 (bv []) := fun w' hg => ⟨hg, World.ownsRow_nil _ _ _ _⟩
  repeat'(first|refine kv' ?_|apply jJ|refine jE' ?_|refine jp' ?_|(apply jc;kernel_rfl)|refine kg' ?_|refine kG' ?_|refine kB' fun _=>?_|refine kA' fun _=>?_|refine kK' fun _=>?_|refine kU' ?_|(apply LR.qcall; (· exact rfl); (· intro w1 h1; have hq := CallsTo.q (d17 m a c w1 (h1.rd_of (List.Mem.tail _ (List.Mem.head _))) hz hm hb) h1; show CallsTo Tryz.prog 86 [m.val a c] w1 _; exact hq))|((first|refine kR' ?_ ?_|refine kQ' ?_ ?_);all_goals(intro hc;try simp only[hcs]at hc;try(exfalso;first|contradiction|omega))))
  · (apply ret2; (· exact rfl); intro w' hS)
    have e : pack m = ([], check m) := by unfold pack; rw [if_pos hc]
    rw [e]
    exact ⟨none, 0, rfl, nils w' hS.toKeep⟩
  all_goals (
    rename check m = 0 => hck
    rename m.safe = _ => hsafe
    have hok := msgNums_ok hck
    have h160 := (check_ok hck).1
    have e : pack m = (bytesM m, 0) := by unfold pack; rw [if_neg (by simpa using hck)]
    have hl12 : ((encs (msgNums m)).length ≤ 108) := by have := encs_len (msgNums m); have h3 : (msgNums m).length = 12 := rfl; omega
    have hlb := bytesM_len m
    have en : msgNums m = [m.kind, m.origin, m.life, m.id, m.part, m.parts, m.groups, b2i m.safe, m.stamp, m.rseq, m.rrep, m.kseq] := rfl
    rw [hsafe] at en
    apply LR.call
    · exact rfl
    intro w1 h1
    refine (c53 w1).mono ?_
    rintro v w2 ⟨bw, rfl, hn⟩
    refine LR.back (h1.got hn (wrA_dep _ _ _ _)) ?_
    clear hn h1
    rw [e]
    repeat'(first|refine kv' ?_|apply jJ|refine jE' ?_|refine jp' ?_|(apply jc;kernel_rfl)|refine kg' ?_|refine kG' ?_|refine kB' fun _=>?_|refine kA' fun _=>?_|refine kK' fun _=>?_|refine kU' ?_|(apply LR.call; (· exact rfl); (intro w1 h1; refine (c54 bw none _ 0 _ [] (msgNums m) w1 (h1.holds _ (List.Mem.tail _ (List.Mem.head _))) (by rw [en]; exact h1.rd_of_blk (List.Mem.head _)) (fun k hk hk2 => h1.apart (List.Mem.head _) rfl k (by obtain ⟨_, ad, e, rfl⟩ := hk; cases e; rfl) hk2) (by simp) (by simp [msgNums]) hok).mono ?_; rintro v w2 ⟨a2, c2, rfl, st⟩; refine LR.back (h1.did (Sel.tail _ (Sel.head _ _ _)) rfl st (wrA_dep _ _ _ _)) ?_; clear st h1))|(apply LR.call; (· exact rfl); (intro w1 h1; refine (c55 bw a2 _ c2 _ _ m.body w1 (h1.holds _ (List.Mem.tail _ (List.Mem.head _))) (h1.rd_of (List.Mem.tail _ (List.Mem.tail _ (List.Mem.tail _ (List.Mem.head _))))) hz (fun k hk hk2 => (front h1 3 rfl rfl).apart (x := rdA a (bv m.body)) (List.Mem.tail _ (List.Mem.head _)) rfl k hk hk2) (by simp; omega) (by omega)).mono ?_; rintro v w2 ⟨a3, c3, rfl, st⟩; refine LR.back (h1.did (Sel.tail _ (Sel.head _ _ _)) rfl st (wrA_dep _ _ _ _)) ?_; clear st h1))|((first|refine kR' ?_ ?_|refine kQ' ?_ ?_);all_goals(intro hc;try simp only[hcs]at hc;try(exfalso;first|contradiction|omega))))
    apply LR.call
    · exact rfl
    intro w1 h1
    refine (c56 bw a3 c3 _ w1 (h1.holds _ (List.Mem.tail _ (List.Mem.head _))) (by simp; simp [bytesM] at hlb; omega)).mono ?_
    rintro v w2 ⟨a4, c4, rfl, hn⟩
    refine LR.back (h1.newSl hn) ?_
    repeat'(first|refine kv' ?_|apply jJ|refine jE' ?_|refine jp' ?_|(apply jc;kernel_rfl)|refine kg' ?_|refine kG' ?_|refine kB' fun _=>?_|refine kA' fun _=>?_|refine kK' fun _=>?_|refine kU' ?_|((first|refine kR' ?_ ?_|refine kQ' ?_ ?_);all_goals(intro hc;try simp only[hcs]at hc;try(exfalso;first|contradiction|omega))))
    (apply ret2; (· exact rfl); intro w' hS)
    exact ⟨a4, c4, rfl, hS.toNew (List.Mem.head _)⟩)
end Go.Proofs.YtkolmkdbjagfcaaGreat

namespace Go.Proofs.YtkolmkdbjagfcaaGreat
open Go.Hb
attribute [local irreducible] LR CW At Ev thn blk finK noG again CallsTo
set_option maxRecDepth 100000

theorem take_succ_eq {la lb : List Int} {i : Nat} (h1 : i < la.length) (h2 : i < lb.length) (h : la.take i = lb.take i) (he : la[i] = lb[i]) : la.take (i + 1) = lb.take (i + 1) := by
  rw [List.take_succ_eq_append_getElem h1, List.take_succ_eq_append_getElem h2, h, he]

theorem c19 (a b : Option Addr) (ca cb : Nat) (la lb : List Int) (w : World) (ha : Rd w a (bv la)) (hb : Rd w b (bv lb)) (hm : la.length ≤ 281474976710656) :
    CallsTo Tryz.prog 11 [.slice a la.length ca, .slice b lb.length cb] w fun v w' => v = .bool (decide (la = lb)) ∧ Grew w w' := by
  refine go_in (n := 26) (St.rd2 ha hb) Tryz.func11 rfl rfl ?_
  repeat'(first|refine kv' ?_|apply jJ|refine jE' ?_|refine jp' ?_|(apply jc;kernel_rfl)|refine kg' ?_|refine kG' ?_|refine kB' fun _=>?_|refine kA' fun _=>?_|refine kK' fun _=>?_|refine kU' ?_|((first|refine kR' ?_ ?_|refine kQ' ?_ ?_);all_goals(intro hc;try simp only[hcs]at hc;try(exfalso;first|contradiction|omega))))
  · (apply ret1; (· exact rfl); intro w' hS)
    refine ⟨congrArg Value.bool ?_, hS.toKeep⟩
    have : la ≠ lb := fun e => by subst e; simp at hc
    simp [this]
  · apply CW.loop [4, 5, 11, 12, 13, 14, 15, 16, 17, 18, 19, 20, 21, 22, 23, 24, 25] (fun i : Nat => i ≤ la.length ∧ la.take i = lb.take i) (fun i : Nat => [(5, Value.int .i64 i)]) (fun i => St w NoF [rdA a (bv la), rdA b (bv lb)]) (fun i => la.length - i)
    · exact fun w' hw' => ⟨0, ⟨by omega, by simp⟩, ⟨rfl, trivial⟩, hw'⟩
    intro i g ⟨hi, heq⟩
    by_cases hlt : i < la.length
    · obtain ⟨ba, oa, rfl⟩ := ha.form (fun e => by have := congrArg List.length e; simp at this; subst this; simp at hlt)
      obtain ⟨bb, ob, rfl⟩ := hb.form (fun e => by have := congrArg List.length e; simp at this; subst this; simp at hc; simp [hc] at hlt)
      have hlb : i < lb.length := by omega
      repeat'(first|refine kv' ?_|apply jJ|refine jE' ?_|refine jp' ?_|(apply jc;kernel_rfl)|refine kg' ?_|refine kG' ?_|refine kB' fun _=>?_|refine kA' fun _=>?_|refine kK' fun _=>?_|refine kU' ?_|(apply idxX;(iterate 2 exact rfl);(iterate 2(first|omega|(dsimp only;omega)));exact rfl)|(apply LR.ev; (· apply Ev.load_rd; (· exact rfl); (· repeat (first | exact mH _ _ | apply mT)); (· exact bv_at (i := i) (by simp) (by omega))); (· exact rfl))|(apply addX;(iterate 2 exact rfl);(iterate 2(first|omega|(dsimp only;omega)));exact rfl)|((first|refine kR' ?_ ?_|refine kQ' ?_ ?_);all_goals(intro hc;try simp only[hcs]at hc;try(exfalso;first|contradiction|omega))))
      · (apply ret1; (· exact rfl); intro w' hS)
        refine ⟨congrArg Value.bool ?_, hS.toKeep⟩
        have : la ≠ lb := fun e => by subst e; simp_all
        simp [this]
      · apply At.again (i + 1) ⟨by omega, take_succ_eq hlt hlb heq (by simpa using ‹_›)⟩
        · (repeat (first | exact Out.refl _ _ | exact Out.mix | (apply Out.upd; (· exact rfl)) | (apply Out.updL; (· exact rfl)) | (apply Out.mixs; (· exact rfl))))
        · exact ⟨rfl, trivial⟩
        · exact fun w' hw' => hw'
        · omega
    · repeat'(first|refine kv' ?_|apply jJ|refine jE' ?_|refine jp' ?_|(apply jc;kernel_rfl)|refine kg' ?_|refine kG' ?_|refine kB' fun _=>?_|refine kA' fun _=>?_|refine kK' fun _=>?_|refine kU' ?_|((first|refine kR' ?_ ?_|refine kQ' ?_ ?_);all_goals(intro hc;try simp only[hcs]at hc;try(exfalso;first|contradiction|omega))))
      (apply ret1; (· exact rfl); intro w' hS)
      refine ⟨congrArg Value.bool ?_, hS.toKeep⟩
      have e1 : la.take i = la := List.take_of_length_le (by omega)
      have e2 : lb.take i = lb := List.take_of_length_le (by omega)
      rw [e1, e2] at heq
      simp [heq]
end Go.Proofs.YtkolmkdbjagfcaaGreat

namespace Go.Proofs.YtkolmkdbjagfcaaGreat
open Go.Hb
attribute [local irreducible] LR CW At Ev thn blk finK noG again CallsTo DW QL dnext
set_option maxRecDepth 100000

def sameB (x y : Msg) : Bool := decide (x.kind = y.kind ∧ x.origin = y.origin ∧ x.life = y.life ∧ x.id = y.id ∧ x.part = y.part ∧ x.parts = y.parts ∧ x.groups = y.groups ∧ x.safe = y.safe ∧ [x.stamp, x.rseq, x.rrep, x.kseq] = [y.stamp, y.rseq, y.rrep, y.kseq] ∧ x.body = y.body)
theorem sameB_iff (x y : Msg) : sameB x y = true ↔ x = y := by
  obtain ⟨x1, x2, x3, x4, x5, x6, x7, x8, x9, x10, x11, x12, x13⟩ := x
  obtain ⟨y1, y2, y3, y4, y5, y6, y7, y8, y9, y10, y11, y12, y13⟩ := y
  simp [sameB, and_assoc]
theorem sameB_self (x : Msg) : sameB x x = true := (sameB_iff x x).2 rfl

set_option maxHeartbeats 2000000 in
theorem c20 (x y : Msg) (a b : Option Addr) (c d : Nat) (w : World) (hx : Rd w a (bv x.body)) (hy : Rd w b (bv y.body)) (hm : x.body.length ≤ 140737488355328) :
    CallsTo Tryz.prog 97 [x.val a c, y.val b d] w fun v w' => v = .bool (sameB x y) ∧ Grew w w' := by
  refine go_in (n := 73) (St.rd2 hx hy) Tryz.func97 rfl rfl ?_
  repeat'(first|refine kv' ?_|apply jJ|refine jE' ?_|refine jp' ?_|(apply jc;kernel_rfl)|refine kg' ?_|refine kG' ?_|refine kB' fun _=>?_|refine kA' fun _=>?_|refine kK' fun _=>?_|refine kU' ?_|(apply LR.qcall; (· exact rfl); (· intro w1 h1; have hq := CallsTo.q (c19 a b c d x.body y.body w1 (h1.rd_of (List.Mem.tail _ (List.Mem.tail _ (List.Mem.head _)))) (h1.rd_of (List.Mem.tail _ (List.Mem.tail _ (List.Mem.tail _ (List.Mem.head _))))) (by omega)) h1; show CallsTo Tryz.prog 11 [.slice a x.body.length c, .slice b y.body.length d] w1 _; exact hq))|((first|refine kR' ?_ ?_|refine kQ' ?_ ?_);all_goals(intro hc;try simp only[hcs]at hc;try(exfalso;first|contradiction|omega))))
  all_goals (
    (apply ret1; (· exact rfl); intro w' hS)
    refine ⟨congrArg Value.bool ?_, hS.toKeep⟩
    unfold sameB
    simp_all)

end Go.Proofs.YtkolmkdbjagfcaaGreat

namespace Go.Proofs.YtkolmkdbjagfcaaGreat
open Go.Hb
attribute [local irreducible] LR CW At Ev thn blk finK noG again CallsTo DW QL dnext
set_option maxRecDepth 100000

end Go.Proofs.YtkolmkdbjagfcaaGreat

namespace Go.Proofs.YtkolmkdbjagfcaaGreat
open Go.Hb Go.ChangeShapes Go.WideShapes
attribute [local irreducible] LR CW At Ev thn blk finK noG again CallsTo DW QL dnext
set_option maxRecDepth 100000

theorem own_knob : ownKnob Tryz.prog.godebug = none := by kernel_rfl
theorem kids : Kids Tryz.prog (· < Tryz.prog.types.size) := kids_rows (by kernel_rfl) (by kernel_rfl)
theorem full_slices : ∀ t e, t < Tryz.prog.types.size → Tryz.prog.underlying t = some (.slice e) → 0 < Tryz.prog.cellsOf e := slices_full_of _ (by kernel_rfl)

end Go.Proofs.YtkolmkdbjagfcaaGreat

namespace Go.Proofs.YtkolmkdbjagfcaaGreat
open Go.Hb
attribute [local irreducible] LR CW At Ev thn blk finK noG again CallsTo DW QL dnext
set_option maxRecDepth 100000

theorem decs_split : ∀ (a b : Nat) (l : List Int), decs (a + b) l = if (decs a l).2.1 ≠ 0 then decs a l else ((decs a l).1 ++ (decs b (decs a l).2.2).1, (decs b (decs a l).2.2).2)
  | 0, b, l => by simp [decs]
  | a + 1, b, l => by
    rw [show a + 1 + b = (a + b) + 1 by omega, decs, decs]
    by_cases h : (dec l).2.2 ≠ 0
    · rw [if_pos h, if_pos h, if_pos (by simpa using h)]
    · rw [if_neg h, if_neg h, decs_split a b]
      dsimp only
      split
      · rfl
      · simp

def endU (ck : Msg → Int) (vs l : List Int) : Msg × Int :=
  if (octs 160 l).2.1 ≠ 0 then (zeroMsg, (octs 160 l).2.1)
  else if 0 < (octs 160 l).2.2.length ∨ ck (msgOf (vs.take 8) (vs.drop 8) (octs 160 l).1) ≠ 0 then (zeroMsg, 4)
  else (msgOf (vs.take 8) (vs.drop 8) (octs 160 l).1, 0)
def contU (ck : Msg → Int) : Nat → List Int → List Int → Msg × Int
  | 0, vs, l => endU ck vs l
  | k + 1, vs, l => if (dec l).2.2 ≠ 0 then (zeroMsg, (dec l).2.2) else if k = 4 ∧ 1 < ((dec l).1 : Int) then (zeroMsg, 4) else contU ck k (vs ++ [((dec l).1 : Int)]) (l.drop (dec l).2.1)
theorem contU_add (ck : Msg → Int) (b : Nat) : ∀ (j : Nat) (vs l : List Int), (5 ≤ b ∨ j + b ≤ 4) → contU ck (j + b) vs l = if (decs j l).2.1 ≠ 0 then (zeroMsg, (decs j l).2.1) else contU ck b (vs ++ (decs j l).1) (decs j l).2.2
  | 0, vs, l, _ => by simp [decs]
  | j + 1, vs, l, hb => by
    rw [show j + 1 + b = (j + b) + 1 by omega, contU, decs]
    by_cases h : (dec l).2.2 ≠ 0
    · rw [if_pos h, if_pos h, if_pos (by simpa using h)]
    · rw [if_neg h, if_neg h, if_neg (by omega), contU_add ck b j _ _ (by omega)]
      simp
theorem unpackW_cont (ck : Msg → Int) (l : List Int) : unpackW ck l = contU ck 12 [] l := by
  rw [show (12 : Nat) = 7 + 5 by rfl, contU_add ck 5 7 [] l (by omega)]
  have h8 : decs 8 l = _ := decs_split 7 1 l
  unfold unpackW
  rw [h8]
  by_cases h7 : (decs 7 l).2.1 ≠ 0
  · rw [if_pos h7, if_pos h7, if_pos h7]
  · rw [if_neg h7, if_neg h7]
    have hl7 := (decs_len 7 l).2 (by simpa using h7)
    generalize (decs 7 l).2.2 = r at *
    generalize (decs 7 l).1 = vs at *
    rw [contU]
    by_cases hd : (dec r).2.2 ≠ 0
    · have e1 : decs 1 r = ([], (dec r).2.2, r.drop (dec r).2.1) := by rw [decs, if_pos hd]
      rw [e1, if_pos hd]; dsimp only; rw [if_pos hd]
    · have e1 : decs 1 r = ([((dec r).1 : Int)], 0, r.drop (dec r).2.1) := by rw [decs, if_neg hd]; rfl
      have e7 : (vs ++ [((dec r).1 : Int)]).getD 7 0 = ((dec r).1 : Int) := by simp [List.getD_eq_getElem?_getD, ← hl7]
      have e8 : (vs ++ [((dec r).1 : Int)]).length = 8 := by simp [hl7]
      rw [e1, if_neg hd]
      dsimp only
      generalize (dec r).2.1 = n at *
      generalize ((dec r).1 : Int) = x at *
      simp only [ne_eq, not_true_eq_false, if_false, List.nil_append, true_and]
      rw [e7]
      by_cases h1 : 1 < x
      · rw [if_pos h1, if_pos h1]
      · rw [if_neg h1, if_neg h1]
        have h12 := contU_add ck 0 4 (vs ++ [x]) (r.drop n) (by omega)
        rw [Nat.add_zero] at h12
        rw [h12]
        by_cases h4 : (decs 4 (r.drop n)).2.1 = 0
        rotate_left
        · simp only [h4, not_false_eq_true, if_true, ne_eq]
        · simp only [h4, not_true_eq_false, if_false, ne_eq]
          unfold contU endU
          have e9 : (vs ++ [x] ++ (decs 4 (r.drop n)).1).take 8 = vs ++ [x] := by rw [List.take_append_of_le_length (Nat.le_of_eq e8.symm), List.take_of_length_le (Nat.le_of_eq e8)]
          have e10 : (vs ++ [x] ++ (decs 4 (r.drop n)).1).drop 8 = (decs 4 (r.drop n)).1 := by rw [List.drop_append, e8, List.drop_of_length_le (Nat.le_of_eq e8)]; simp
          rw [e9, e10]

set_option maxHeartbeats 4000000 in
theorem c24 {ck : Msg → Int} (l : List Int) (hck : ∀ (m : Msg) (a : Option Addr) (c : Nat) (w : World), Rd w a (bv m.body) → (a = none → c = 0) → Byt m.body → m.body.length < l.length → CallsTo Tryz.prog 47 [m.val a c] w fun v w' => v = .int .i64 (ck m) ∧ Grew w w')
    (a : Option Addr) (ca : Nat) (w : World) (hr : Rd w a (bv l)) (hz : a = none → ca = 0) (hm : l.length ≤ 140737488355328) (hb : Byt l) :
    CallsTo Tryz.prog 102 [.slice a l.length ca] w fun v w' => ∃ a2 c2, v = .tuple [(unpackW ck l).1.val a2 c2, .int .i64 (unpackW ck l).2].toArray ∧ NewSl w w' (.slice a2 (unpackW ck l).1.body.length c2) 5 1 (unpackW ck l).1.body.length (bv (unpackW ck l).1.body) := by
  refine go_in (n := 86) (St.rd1 hr) Tryz.func102 rfl rfl ?_
  rw [unpackW_cont]
  have nils : ∀ w', Grew w w' → NewSl w w' (.slice none 0 0) 5 1 0 (bv []) := fun w' hg => ⟨hg, World.ownsRow_nil _ _ _ _⟩
  repeat'(first|refine kv' ?_|apply jJ|refine jE' ?_|refine jp' ?_|(apply jc;kernel_rfl)|refine kg' ?_|refine kG' ?_|refine kB' fun _=>?_|refine kA' fun _=>?_|refine kK' fun _=>?_|refine kU' ?_|(apply LR.call; (· exact rfl); (intro w1 h1; refine (c69 a ca l w1 (h1.rd_of memZ) hz hm).mono ?_; rintro v w2 ⟨br, a1, c1, rfl, hn⟩; refine LR.back (h1.got hn (rrA_dep _ _ _ _ _ _)) ?_; clear hn h1))|((first|refine kR' ?_ ?_|refine kQ' ?_ ?_);all_goals(intro hc;try simp only[hcs]at hc;try(exfalso;first|contradiction|omega))))
  rename_i bz ba
  apply CW.loop [3, 6, 7, 8, 14, 15, 16, 17, 18, 19, 20, 21, 22, 23, 24, 25, 26, 27, 28, 29, 30, 31, 32, 33, 34, 35, 36] (fun s : Nat × Option Addr × Nat × List Int × List Int => s.1 ≤ 12 ∧ s.2.2.2.1.length = s.1 ∧ Byt s.2.2.2.2 ∧ s.2.2.2.2.length ≤ l.length ∧ contU ck 12 [] l = contU ck (12 - s.1) s.2.2.2.1 s.2.2.2.2) (fun s => [(6, Value.int .i64 (s.1 : Int))])
    (fun s => St w NoF [.own ba (.cells (iv s.2.2.2.1 ++ zz (12 - s.1)).toArray 161 (0, 0)), rrA 143 [] br s.2.1 s.2.2.1 s.2.2.2.2, .own bz (.cells (zeroMsg.cells none 0).toArray 28 (0, 0))]) (fun s => 12 - s.1)
  · exact fun w' hw' => ⟨(0, a1, c1, [], l), ⟨by simp, rfl, hb, by simp, rfl⟩, ⟨rfl, trivial⟩, hw'.sub (List.Sublist.cons_cons _ (List.Sublist.cons_cons _ (List.Sublist.cons_cons _ (List.nil_sublist _))))⟩
  rintro ⟨i, a3, c3, vs, l3⟩ g ⟨hi, hvs, hb3, hm3, heq⟩
  simp only at hi hvs hb3 hm3 heq ⊢
  rw [heq]
  by_cases hlt : i < 12
  · obtain ⟨q, hq⟩ : ∃ q, 12 - i = q + 1 := ⟨12 - i - 1, by omega⟩
    rw [hq] at heq ⊢
    repeat'(first|refine kv' ?_|apply jJ|refine jE' ?_|refine jp' ?_|(apply jc;kernel_rfl)|refine kg' ?_|refine kG' ?_|refine kB' fun _=>?_|refine kA' fun _=>?_|refine kK' fun _=>?_|refine kU' ?_|(apply LR.ev; (· apply Ev.indexArr; (· exact rfl); (· exact rfl); (· first | decide | omega | (dsimp only; omega)); (· first | decide | omega | (dsimp only; omega))); (· exact rfl))|(apply LR.call; (· exact rfl); (intro w1 h1; refine (c70 _ _ _ l3 w1 h1.g1 hb3 (by omega)).mono ?_; rintro v w2 ⟨a4, c4, rfl, st⟩; refine LR.back (h1.did (Sel.tail _ (Sel.head _ _ _)) rfl st (rrA_dep _ _ _ _ _ _)) ?_; clear st h1))|((first|refine kR' ?_ ?_|refine kQ' ?_ ?_);all_goals(intro hc;try simp only[hcs]at hc;try(exfalso;first|contradiction|omega))))
    · (apply ret2c; (· exact rfl); (· exact inferInstance); (· exact rfl); (· (repeat (first | exact List.Mem.head _ | apply List.Mem.tail))); (· exact rfl); intro w' hS)
      have e : contU ck (q + 1) vs l3 = (zeroMsg, (dec l3).2.2) := by rw [contU, if_pos hc]
      rw [e]
      exact ⟨none, 0, rfl, nils w' hS.toKeep⟩
    · (apply ret2c; (· exact rfl); (· exact inferInstance); (· exact rfl); (· (repeat (first | exact List.Mem.head _ | apply List.Mem.tail))); (· exact rfl); intro w' hS)
      rename (dec l3).2.2 = 0 => hd
      rename ((i : Int) = 7) => hi7
      have e : contU ck (q + 1) vs l3 = (zeroMsg, 4) := by rw [contU, if_neg (by simpa using hd), if_pos ⟨by omega, hc⟩]
      rw [e]
      exact ⟨none, 0, rfl, nils w' hS.toKeep⟩
    all_goals (
      rename (dec l3).2.2 = 0 => hd
      have e : contU ck (q + 1) vs l3 = contU ck q (vs ++ [((dec l3).1 : Int)]) (l3.drop (dec l3).2.1) := by rw [contU, if_neg (by simpa using hd), if_neg (by omega)]
      refine LR.store_obj (v := .int .i64 ((dec l3).1 : Int)) (z' := .own ba (.cells (iv (vs ++ [((dec l3).1 : Int)]) ++ zz q).toArray 161 (0, 0))) rfl rfl (sH _ _ _) rfl ?_ (Asrt.dep_own _ _) ?_
      · have st := Stores.own (P := Tryz.prog) (T := 3) (m := 1) (b := ba) (o := 0 + (i : Int).toNat * 1) (v := .int .i64 ((dec l3).1 : Int)) (cs := iv vs ++ zz (q + 1)) (vs := [.int .i64 ((dec l3).1 : Int)]) (E := 161) inferInstance rfl rfl rfl (by
          simp [hvs, zz])
        have e2 : zz (q + 1) = .int .i64 0 :: zz q := rfl
        rw [e2, splice_mid _ _ _ _ (by simp [hvs])] at st
        rw [e2]
        simpa [iv] using st
      repeat'(first|refine kv' ?_|apply jJ|refine jE' ?_|refine jp' ?_|(apply jc;kernel_rfl)|refine kg' ?_|refine kG' ?_|refine kB' fun _=>?_|refine kA' fun _=>?_|refine kK' fun _=>?_|refine kU' ?_|(apply addX;(iterate 2 exact rfl);(iterate 2(first|omega|(dsimp only;omega)));exact rfl)|((first|refine kR' ?_ ?_|refine kQ' ?_ ?_);all_goals(intro hc;try simp only[hcs]at hc;try(exfalso;first|contradiction|omega))))
      apply At.again (i + 1, a4, c4, vs ++ [((dec l3).1 : Int)], l3.drop (dec l3).2.1)
      · refine ⟨by show i + 1 ≤ _; omega, by simp [hvs], hb3.drop _, by simp; omega, ?_⟩
        show contU ck (q + 1) vs l3 = _
        rw [e, show 12 - (i + 1) = q by omega]
      · (repeat (first | exact Out.refl _ _ | exact Out.mix | (apply Out.upd; (· exact rfl)) | (apply Out.updL; (· exact rfl)) | (apply Out.mixs; (· exact rfl))))
      · exact ⟨rfl, trivial⟩
      · intro w' hw'
        simp only [show 12 - (i + 1) = q by omega]
        exact hw'
      · show 12 - (i + 1) < 12 - i; omega)
  · have hi12 : i = 12 := by omega
    subst hi12
    obtain ⟨v0, v1, v2, v3, v4, v5, v6, v7, x0, x1, x2, x3, rfl⟩ : ∃ v0 v1 v2 v3 v4 v5 v6 v7 x0 x1 x2 x3, vs = [v0, v1, v2, v3, v4, v5, v6, v7, x0, x1, x2, x3] := by
      match vs, hvs with
      | [a, b, c, d, e, f, g, h, i, j, k, l], _ => exact ⟨a, b, c, d, e, f, g, h, i, j, k, l, rfl⟩
    rw [show 12 - 12 = 0 from rfl, contU]
    have eu : endU ck [v0, v1, v2, v3, v4, v5, v6, v7, x0, x1, x2, x3] l3 = if (octs 160 l3).2.1 ≠ 0 then (zeroMsg, (octs 160 l3).2.1)
        else if 0 < (octs 160 l3).2.2.length ∨ ck (msgOf [v0, v1, v2, v3, v4, v5, v6, v7] [x0, x1, x2, x3] (octs 160 l3).1) ≠ 0 then (zeroMsg, 4)
        else (msgOf [v0, v1, v2, v3, v4, v5, v6, v7] [x0, x1, x2, x3] (octs 160 l3).1, 0) := rfl
    rw [eu]
    repeat'(first|refine kv' ?_|apply jJ|refine jE' ?_|refine jp' ?_|(apply jc;kernel_rfl)|refine kg' ?_|refine kG' ?_|refine kB' fun _=>?_|refine kA' fun _=>?_|refine kK' fun _=>?_|refine kU' ?_|(apply LR.call; (· exact rfl); (intro w1 h1; refine (c71 br a3 c3 l3 160 w1 h1.g1 hb3 (by omega)).mono ?_; rintro v w2 ⟨a4, c4, a5, c5, rfl, st⟩; refine LR.back (h1.did1 (Sel.tail _ (Sel.head _ _ _)) rfl rfl rfl st) ?_; clear st h1))|(apply LR.ev; (· apply Ev.indexArr; (· exact rfl); (· exact rfl); (· first | decide | omega | (dsimp only; omega)); (· first | decide | omega | (dsimp only; omega))); (· exact rfl))|((first|refine kR' ?_ ?_|refine kQ' ?_ ?_);all_goals(intro hc;try simp only[hcs]at hc;try(exfalso;first|contradiction|omega))))
    · (apply ret2c; (· exact rfl); (· exact inferInstance); (· exact rfl); (· (repeat (first | exact List.Mem.head _ | apply List.Mem.tail))); (· exact rfl); intro w' hS)
      rw [if_pos (by assumption)]
      exact ⟨none, 0, rfl, nils w' hS.toKeep⟩
    rename (octs 160 l3).2.1 = 0 => ho
    have hof := octs_facts ho
    repeat'(first|refine kv' ?_|apply jJ|refine jE' ?_|refine jp' ?_|(apply jc;kernel_rfl)|refine kg' ?_|refine kG' ?_|refine kB' fun _=>?_|refine kA' fun _=>?_|refine kK' fun _=>?_|refine kU' ?_|(apply kq; (· exact rfl); (· intro w1 h1; exact CallsTo.q (c72 br _ _ _ w1 h1.g3) h1))|(apply kq; (· exact rfl); (· intro w1 h1; have hq := CallsTo.q (hck (msgOf [v0, v1, v2, v3, v4, v5, v6, v7] [x0, x1, x2, x3] (octs 160 l3).1) a5 c5 w1 (ownsRow_rd h1.g1) (fun e => (ownsRow_some h1.g1 e).2) (fun b hb' => hb3 b (hof.2 b hb')) (Nat.lt_of_lt_of_le hof.1 hm3)) h1; show CallsTo Tryz.prog 47 [(msgOf [v0, v1, v2, v3, v4, v5, v6, v7] [x0, x1, x2, x3] (octs 160 l3).1).val a5 c5] w1 _; exact hq))|((first|refine kR' ?_ ?_|refine kQ' ?_ ?_);all_goals(intro hc;try simp only[hcs]at hc;try(exfalso;first|contradiction|omega))))
    · (apply ret2c; (· exact rfl); (· exact inferInstance); (· exact rfl); (· (repeat (first | exact List.Mem.head _ | apply List.Mem.tail))); (· exact rfl); intro w' hS)
      rw [if_neg (by simpa using ho), if_pos (.inl (by omega))]
      exact ⟨none, 0, rfl, nils w' hS.toKeep⟩
    · (apply ret2c; (· exact rfl); (· exact inferInstance); (· exact rfl); (· (repeat (first | exact List.Mem.head _ | apply List.Mem.tail))); (· exact rfl); intro w' hS)
      rw [if_neg (by simpa using ho), if_pos (.inr (by assumption))]
      exact ⟨none, 0, rfl, nils w' hS.toKeep⟩
    · rename ck _ = 0 => hck0
      (apply ret2c; (· exact rfl); (· exact inferInstance); (· exact rfl); (· (repeat (first | exact List.Mem.head _ | apply List.Mem.tail))); (· exact rfl); intro w' hS)
      rw [if_neg (by simpa using ho), if_neg (by simp only [not_or, Nat.not_lt]; exact ⟨by omega, by simpa using hck0⟩)]
      exact ⟨a5, c5, rfl, hS.toNew (mT _ (mH _ _))⟩

theorem unp_all2 : ∀ K, UnpC 102 K
  | 0 => fun a ca l w hr hz hm hb hK => c24 (ck := fun _ => 2) l (fun m a c w _ _ _ h => by omega) a ca w hr hz hm hb
  | K + 1 => fun a ca l w hr hz hm hb hK => c24 (ck := checkM (unpackF K)) l (fun m a c w h1 h2 h3 h4 => c18 (unp_all2 K) m a c w h1 h2 (by omega) h3 (fun _ => by omega)) a ca w hr hz hm hb
theorem d24 (a : Option Addr) (ca : Nat) (l : List Int) (w : World) (hr : Rd w a (bv l)) (hz : a = none → ca = 0) (hm : l.length ≤ 140737488355328) (hb : Byt l) :
    CallsTo Tryz.prog 102 [.slice a l.length ca] w fun v w' => ∃ a2 c2, v = .tuple [(unpack l).1.val a2 c2, .int .i64 (unpack l).2].toArray ∧ NewSl w w' (.slice a2 (unpack l).1.body.length c2) 5 1 (unpack l).1.body.length (bv (unpack l).1.body) :=
  unp_all2 l.length a ca l w hr hz hm hb (Nat.le_refl _)
theorem d18 (m : Msg) (a : Option Addr) (c : Nat) (w : World) (hr : Rd w a (bv m.body)) (hz : a = none → c = 0) (hm : m.body.length ≤ 140737488355328) (hb : Byt m.body) :
    CallsTo Tryz.prog 47 [m.val a c] w fun v w' => v = .int .i64 (check m) ∧ Grew w w' := by
  have := c18 (unp_all2 m.body.length) m a c w hr hz hm hb (fun _ => Nat.le_refl _)
  rwa [check_of (Nat.le_refl _)] at this
end Go.Proofs.YtkolmkdbjagfcaaGreat

namespace Go.Proofs.YtkolmkdbjagfcaaGreat
open Go.Hb
attribute [local irreducible] LR CW At Ev thn blk finK noG again CallsTo DW QL dnext
set_option maxRecDepth 100000

set_option maxHeartbeats 2000000 in
theorem c57 (m : Msg) (a : Option Addr) (c : Nat) (w : World) (hr : Rd w a (bv m.body)) (hz : a = none → c = 0) (hck : check m = 0) :
    CallsTo Tryz.prog 84 [m.val a c] w fun v w' => NewB w w' v (bytesM m) := by
  have hok := msgNums_ok hck
  have h160 := (check_ok hck).1
  have hlb := bytesM_len m
  have hn12 : (msgNums m).length = 12 := rfl
  have hle : ∀ i, (encs ((msgNums m).take i)).length ≤ 108 := fun i => by
    have := encs_len ((msgNums m).take i)
    have h2 : ((msgNums m).take i).length ≤ 12 := by rw [List.length_take]; omega
    omega
  have en : msgNums m = [m.kind, m.origin, m.life, m.id, m.part, m.parts, m.groups, b2i m.safe, m.stamp, m.rseq, m.rrep, m.kseq] := rfl
  refine go_in (n := 58) (St.rd1 hr) Tryz.func84 rfl rfl ?_
  repeat'(first|refine kv' ?_|apply jJ|refine jE' ?_|refine jp' ?_|(apply jc;kernel_rfl)|refine kg' ?_|refine kG' ?_|refine kB' fun _=>?_|refine kA' fun _=>?_|refine kK' fun _=>?_|refine kU' ?_|((first|refine kR' ?_ ?_|refine kQ' ?_ ?_);all_goals(intro hc;try simp only[hcs]at hc;try(exfalso;first|contradiction|omega))))
  all_goals (
    rename m.safe = _ => hsafe
    rename_i bm bs
    rw [hsafe] at en
    apply LR.call
    · exact rfl
    intro w1 h1
    refine (c77 w1).mono ?_
    rintro v w2 ⟨bw, rfl, hn⟩
    refine LR.back (h1.got hn (wrA_dep _ _ _ _)) ?_
    clear hn h1
    repeat'(first|refine kv' ?_|apply jJ|refine jE' ?_|refine jp' ?_|(apply jc;kernel_rfl)|refine kg' ?_|refine kG' ?_|refine kB' fun _=>?_|refine kA' fun _=>?_|refine kK' fun _=>?_|refine kU' ?_|((first|refine kR' ?_ ?_|refine kQ' ?_ ?_);all_goals(intro hc;try simp only[hcs]at hc;try(exfalso;first|contradiction|omega))))
    apply CW.loop [6, 40, 41, 42, 43, 44, 45, 46, 47, 48, 49, 50, 51] (fun s : Nat × Option Addr × Nat => s.1 ≤ 12) (fun s => [(6, Value.int .i64 (s.1 : Int))])
      (fun s => St w NoF [wrA 131 [] bw s.2.1 s.2.2 (encs ((msgNums m).take s.1)), .own bs (.cells (iv (msgNums m)).toArray 3 (0, 0)), .own bm (.cells (m.cells a c).toArray 28 (0, 0)), rdA a (bv m.body)]) (fun s => 12 - s.1)
    · exact fun w' hw' => ⟨(0, none, 0), by simp, ⟨rfl, trivial⟩, hw'.cast (by rw [en]; rfl)⟩
    rintro ⟨i, a1, c1⟩ g hi
    simp only at hi ⊢
    have hl1 := hle i
    by_cases hlt : i < 12
    · have hx := hok _ (List.getElem_mem (show i < (msgNums m).length from hlt))
      have e1 := putE_ok hx
      have e2 := putL_ok hx
      repeat'(first|refine kv' ?_|apply jJ|refine jE' ?_|refine jp' ?_|(apply jc;kernel_rfl)|refine kg' ?_|refine kG' ?_|refine kB' fun _=>?_|refine kA' fun _=>?_|refine kK' fun _=>?_|refine kU' ?_|(apply idxX;(iterate 2 exact rfl);(iterate 2(first|omega|(dsimp only;omega)));exact rfl)|(apply LR.ev; (· apply Ev.load_own; (· exact rfl); (· (repeat (first | exact mH _ _ | apply mT))); (· exact iv_at (l := msgNums m) (i := i) (by simp) (by omega))); (· exact rfl))|(apply LR.call; (· exact rfl); (intro w1 h1; refine (c78 _ _ _ _ _ w1 h1.g0 (by omega)).mono ?_; rintro v w2 ⟨a2, c2, rfl, st⟩; refine LR.back (h1.did (sH _ _ _) rfl st (wrA_dep _ _ _ _)) ?_; clear st h1; rw [e1, e2]))|(apply addX;(iterate 2 exact rfl);(iterate 2(first|omega|(dsimp only;omega)));exact rfl)|((first|refine kR' ?_ ?_|refine kQ' ?_ ?_);all_goals(intro hc;try simp only[hcs]at hc;try(exfalso;first|contradiction|omega))))
      apply At.again (i + 1, a2, c2) (by show i + 1 ≤ _; omega)
      · (repeat (first | exact Out.refl _ _ | exact Out.mix | (apply Out.upd; (· exact rfl)) | (apply Out.updL; (· exact rfl)) | (apply Out.mixs; (· exact rfl))))
      · exact ⟨rfl, trivial⟩
      · intro w' hw'
        exact hw'.cast (by simp only [encs_take (show i < (msgNums m).length from hlt)])
      · show 12 - (i + 1) < 12 - i; omega
    · rw [List.take_of_length_le (by omega)] at hl1 ⊢
      repeat'(first|refine kv' ?_|apply jJ|refine jE' ?_|refine jp' ?_|(apply jc;kernel_rfl)|refine kg' ?_|refine kG' ?_|refine kB' fun _=>?_|refine kA' fun _=>?_|refine kK' fun _=>?_|refine kU' ?_|(apply LR.call; (· exact rfl); (intro w1 h1; first | (refine (c89 bw a1 _ c1 _ _ m.body w1 h1.g0 (h1.rd_of (mT _ (mT _ (mT _ (mH _ _))))) hz (fun k hk hk2 => (front h1 3 rfl rfl).apart (x := rdA a (bv m.body)) (mH _ _) rfl k hk hk2) (by omega) (by omega)).mono ?_; rintro v w2 ⟨a3, c3, rfl, st⟩; refine LR.back (h1.did (sH _ _ _) rfl st (wrA_dep _ _ _ _)) ?_; clear st h1) | (refine (c80 bw _ _ _ w1 h1.g0 (by simp; simp [bytesM] at hlb; omega)).mono ?_; rintro v w2 ⟨a4, c4, rfl, hn⟩; refine LR.back (h1.newSl hn) ?_)))|((first|refine kR' ?_ ?_|refine kQ' ?_ ?_);all_goals(intro hc;try simp only[hcs]at hc;try(exfalso;first|contradiction|omega))))
      (apply ret1; (· exact rfl); intro w' hS)
      exact ⟨_, _, rfl, hS.toNew (List.Mem.head _)⟩)

theorem c16 (m : Msg) (a : Option Addr) (c : Nat) (w : World) (hr : Rd w a (bv m.body)) (hz : a = none → c = 0) (hm : m.body.length ≤ 140737488355328) (hb : Byt m.body) :
    CallsTo Tryz.prog 30 [m.val a c] w fun v w' => ∃ a2 c2, v = .tuple [.slice a2 (pack m).1.length c2, .int .i64 (pack m).2].toArray ∧ NewSl w w' (.slice a2 (pack m).1.length c2) 5 1 (pack m).1.length (bv (pack m).1) := by
  refine go_in (n := 12) (St.rd1 hr) Tryz.func30 rfl rfl ?_
  have nils : ∀ w', Grew w w' → NewSl w w' (.slice none 0 0) 5 1 0 (bv []) := fun w' hg => ⟨hg, World.ownsRow_nil _ _ _ _⟩
  repeat'(first|refine kv' ?_|apply jJ|refine jE' ?_|refine jp' ?_|(apply jc;kernel_rfl)|refine kg' ?_|refine kG' ?_|refine kB' fun _=>?_|refine kA' fun _=>?_|refine kK' fun _=>?_|refine kU' ?_|(apply LR.qcall; (· exact rfl); (· intro w1 h1; have hq := CallsTo.q (d18 m a c w1 (h1.rd_of (List.Mem.tail _ (List.Mem.head _))) hz hm hb) h1; show CallsTo Tryz.prog 47 [m.val a c] w1 _; exact hq))|((first|refine kR' ?_ ?_|refine kQ' ?_ ?_);all_goals(intro hc;try simp only[hcs]at hc;try(exfalso;first|contradiction|omega))))
  · (apply ret2; (· exact rfl); intro w' hS)
    have e : pack m = ([], check m) := by unfold pack; rw [if_pos hc]
    rw [e]
    exact ⟨none, 0, rfl, nils w' hS.toKeep⟩
  · rename check m = 0 => hck
    have e : pack m = (bytesM m, 0) := by unfold pack; rw [if_neg (by simpa using hck)]
    rw [e]
    apply LR.call
    · exact rfl
    intro w1 h1
    refine CallsTo.mono (show CallsTo Tryz.prog 84 [m.val a c] w1 _ from c57 m a c w1 (h1.rd_of (mT _ (mH _ _))) hz hck) ?_
    rintro v w2 ⟨a2, c2, rfl, hn⟩
    refine LR.back (h1.newSl hn) ?_
    clear hn h1
    repeat'(first|refine kv' ?_|apply jJ|refine jE' ?_|refine jp' ?_|(apply jc;kernel_rfl)|refine kg' ?_|refine kG' ?_|refine kB' fun _=>?_|refine kA' fun _=>?_|refine kK' fun _=>?_|refine kU' ?_|((first|refine kR' ?_ ?_|refine kQ' ?_ ?_);all_goals(intro hc;try simp only[hcs]at hc;try(exfalso;first|contradiction|omega))))
    (apply ret2; (· exact rfl); intro w' hS)
    exact ⟨a2, c2, rfl, hS.toNew (mH _ _)⟩

theorem c14 (m : Msg) (a : Option Addr) (c : Nat) (w : World) (hr : Rd w a (bv m.body)) (hz : a = none → c = 0) (hm : m.body.length ≤ 140737488355328) :
    CallsTo Tryz.prog 23 [m.val a c] w fun v w' => ∃ a2 c2, v = m.val a2 c2 ∧ NewSl w w' (.slice a2 m.body.length c2) 5 1 m.body.length (bv m.body) := by
  refine go_in (n := 10) (St.rd1 hr) Tryz.func23 rfl rfl ?_
  repeat'(first|refine kv' ?_|apply jJ|refine jE' ?_|refine jp' ?_|(apply jc;kernel_rfl)|refine kg' ?_|refine kG' ?_|refine kB' fun _=>?_|refine kA' fun _=>?_|refine kK' fun _=>?_|refine kU' ?_|(apply LR.call; (· exact rfl); (intro w1 h1; refine (c22 a c m.body w1 (h1.rd_of memZ) hz hm).mono ?_; rintro v w2 ⟨a2, c2, rfl, hn⟩; refine LR.back (h1.newSl hn) ?_; clear hn h1))|((first|refine kR' ?_ ?_|refine kQ' ?_ ?_);all_goals(intro hc;try simp only[hcs]at hc;try(exfalso;first|contradiction|omega))))
  (apply ret1c; (· exact rfl); (· exact inferInstance); (· exact rfl); (· (repeat (first | exact List.Mem.head _ | apply List.Mem.tail))); (· exact rfl); intro w' hS)
  exact ⟨a2, c2, rfl, hS.toNew (mH _ _)⟩
end Go.Proofs.YtkolmkdbjagfcaaGreat

namespace Go.Proofs.YtkolmkdbjagfcaaGreat
open Go.Hb Go.ChangeShapes Go.WideShapes
attribute [local irreducible] LR CW At Ev thn blk finK noG again CallsTo DW QL dnext
set_option maxRecDepth 100000

end Go.Proofs.YtkolmkdbjagfcaaGreat

namespace Go.Proofs.YtkolmkdbjagfcaaGreat
open Go.Hb
attribute [local irreducible] LR CW At Ev thn blk finK noG again CallsTo DW QL dnext
set_option maxRecDepth 100000

theorem unpackW_body (ck : Msg → Int) (l : List Int) : (unpackW ck l).1.body.length ≤ l.length ∧ ∀ b ∈ (unpackW ck l).1.body, b ∈ l := by
  have z : zeroMsg.body.length ≤ l.length ∧ ∀ b ∈ zeroMsg.body, b ∈ l := ⟨by simp [zeroMsg], fun b hb => by simp [zeroMsg] at hb⟩
  unfold unpackW
  split
  · exact z
  · split
    · exact z
    · split
      · exact z
      · split
        · exact z
        · split
          · exact z
          · rename_i h8 h1 h4 ho hc
            have hof := octs_facts (most := 160) (l := (decs 4 (decs 8 l).2.2).2.2) (by simpa using ho)
            have hrl : (decs 4 (decs 8 l).2.2).2.2.length ≤ l.length := Nat.le_trans (decs_rest_len 4 _) (decs_rest_len 8 l)
            refine ⟨by simp only [msgOf]; omega, fun b hb => ?_⟩
            have h2 := hof.2 b hb
            obtain ⟨k, hk⟩ := decs_rest 4 (decs 8 l).2.2
            obtain ⟨k', hk'⟩ := decs_rest 8 l
            rw [hk, hk'] at h2
            exact List.mem_of_mem_drop (List.mem_of_mem_drop h2)
theorem unpack_body (l : List Int) : (unpack l).1.body.length ≤ l.length ∧ ∀ b ∈ (unpack l).1.body, b ∈ l := by
  rw [unpack_eq]; exact unpackW_body _ _
theorem rows_len : ∀ n l, (rows n l).1.length ≤ n
  | 0, l => by simp [rows]
  | n + 1, l => by
    rw [rows]
    split
    · simp
    · have := rows_len n (decs 4 l).2.2
      simp; omega
end Go.Proofs.YtkolmkdbjagfcaaGreat

namespace Go.Proofs.YtkolmkdbjagfcaaGreat
open Go.Hb

theorem toNat_mod (y : Nat) (h : y < 128) : ((y : Int)).toNat % 128 = y := by simp; omega
theorem split128 (y i : Nat) : (y % 128) * 128 ^ i + (y / 128) * 128 ^ (i + 1) = y * 128 ^ i := by
  rw [Nat.pow_succ, ← Nat.mul_assoc, Nat.mul_right_comm, ← Nat.add_mul]
  congr 1
  omega
theorem decF_encF : ∀ (k m i acc y : Nat) (r : List Int), y < 128 ^ (k + 1) → k ≤ m → acc + y * 128 ^ i ≤ 9007199254740991 → (0 < i → 0 < y) →
    decF (k + 1) i acc (encF m y ++ r) = (acc + y * 128 ^ i, i + (encF m y).length, 0)
  | k, m, i, acc, y, r, hy, hm, hs, hp => by
    by_cases hlt : y < 128
    · rw [encF_small m y hlt]
      simp only [List.cons_append, List.nil_append, decF, List.length_singleton]
      rw [if_pos (by omega), toNat_mod y hlt, if_neg (by simp only [not_or, not_and]; exact ⟨fun h => by have := hp h; omega, by omega⟩)]
    · cases k with
      | zero => simp at hy; omega
      | succ k =>
        cases m with
        | zero => omega
        | succ m =>
          have hd : y / 128 < 128 ^ (k + 1) := by rw [Nat.pow_succ] at hy; omega
          have hsp := split128 y i
          have ih := decF_encF k m (i + 1) (acc + y % 128 * 128 ^ i) (y / 128) r hd (by omega) (by omega) (fun _ => by omega)
          rw [encF, if_neg hlt, List.cons_append]
          rw [decF]
          have e1 : (((y % 128 + 128 : Nat) : Int)).toNat % 128 = y % 128 := by rw [Int.toNat_natCast]; omega
          rw [if_neg (by omega), e1, ih]
          simp only [List.length_cons, Prod.mk.injEq, and_true]
          omega
theorem dec_enc (x : Nat) (hx : x ≤ 9007199254740991) (r : List Int) : dec (enc x ++ r) = (x, (enc x).length, 0) := by
  have h1 : (128 : Nat) ^ 8 = 72057594037927936 := by decide
  have := decF_encF 7 8 0 0 x r (by omega) (by omega) (by simpa using hx) (fun h => by omega)
  simpa [dec, enc] using this
theorem decF_canon : ∀ (k m i acc : Nat) (l : List Int), Byt l → k ≤ m + 1 → (decF k i acc l).2.2 = 0 →
    ∃ y r, (decF k i acc l).1 = acc + y * 128 ^ i ∧ (0 < i → 0 < y) ∧ l = encF m y ++ r ∧ (decF k i acc l).2.1 = i + (encF m y).length
  | 0, m, i, acc, l, hb, hm, h => by simp [decF] at h
  | k + 1, m, i, acc, [], hb, hm, h => by simp [decF] at h
  | k + 1, m, i, acc, x :: r, hb, hm, h => by
    have hx := hb x (List.mem_cons_self)
    rw [decF] at h ⊢
    by_cases hlt : x < 128
    · rw [if_pos hlt] at h ⊢
      by_cases hbad : (0 < i ∧ x = 0) ∨ 9007199254740991 < acc + x.toNat % 128 * 128 ^ i
      · rw [if_pos hbad] at h; cases h
      · rw [if_neg hbad]
        simp only [not_or, not_and] at hbad
        have e : x.toNat % 128 = x.toNat := by omega
        refine ⟨x.toNat, r, by rw [e], fun hi => by have := hbad.1 hi; omega, ?_, ?_⟩
        · rw [encF_small m _ (by omega)]; simp; omega
        · rw [encF_small m _ (by omega)]; rfl
    · rw [if_neg hlt] at h ⊢
      cases m with
      | zero =>
        have : k = 0 := by omega
        subst this
        simp [decF] at h
      | succ m =>
        obtain ⟨y, r', h1, h2, h3, h4⟩ := decF_canon k m (i + 1) (acc + x.toNat % 128 * 128 ^ i) r (fun b hb' => hb b (List.mem_cons_of_mem _ hb')) (by omega) h
        have hy := h2 (by omega)
        refine ⟨x.toNat % 128 + y * 128, r', ?_, fun _ => by omega, ?_, ?_⟩
        · rw [h1]
          have := split128 (x.toNat % 128 + y * 128) i
          rw [show (x.toNat % 128 + y * 128) % 128 = x.toNat % 128 by omega, show (x.toNat % 128 + y * 128) / 128 = y by omega] at this
          omega
        · rw [encF, if_neg (by omega), show (x.toNat % 128 + y * 128) % 128 = x.toNat % 128 by omega, show (x.toNat % 128 + y * 128) / 128 = y by omega, List.cons_append, ← h3]
          congr 1
          omega
        · rw [h4, encF, if_neg (by omega), show (x.toNat % 128 + y * 128) / 128 = y by omega]
          simp only [List.length_cons]; omega
theorem dec_canon {l : List Int} (hb : Byt l) (h : (dec l).2.2 = 0) : ∃ r, l = enc (dec l).1 ++ r ∧ (dec l).2.1 = (enc (dec l).1).length ∧ (dec l).1 ≤ 9007199254740991 := by
  obtain ⟨y, r, h1, _, h3, h4⟩ := decF_canon 8 8 0 0 l hb (by omega) h
  have e : (dec l).1 = y := by show (decF 8 0 0 l).1 = y; rw [h1]; simp
  have hbd := (decF_bound 8 0 0 l).2 h
  refine ⟨r, by rw [e]; exact h3, ?_, hbd.2⟩
  rw [e]
  show (decF 8 0 0 l).2.1 = _
  rw [h4]; simp [enc]

theorem decs_encs : ∀ (xs : List Int) (r : List Int), (∀ x ∈ xs, okN x) → decs xs.length (encs xs ++ r) = (xs, 0, r)
  | [], r, _ => by simp [decs, encs]
  | x :: xs, r, h => by
    have hx := h x List.mem_cons_self
    unfold okN at hx
    have he : encs (x :: xs) ++ r = enc x.toNat ++ (encs xs ++ r) := by simp [encs]
    have hd := dec_enc x.toNat (by omega) (encs xs ++ r)
    rw [he, List.length_cons, decs, hd, if_neg (by simp)]
    simp only [List.drop_left]
    rw [decs_encs xs r (fun y hy => h y (List.mem_cons_of_mem _ hy))]
    simp; omega
theorem decs_canon : ∀ (n : Nat) (l : List Int), Byt l → (decs n l).2.1 = 0 → l = encs (decs n l).1 ++ (decs n l).2.2
  | 0, l, _, _ => by simp [decs, encs]
  | n + 1, l, hb, h => by
    rw [decs] at h ⊢
    by_cases hd : (dec l).2.2 ≠ 0
    · rw [if_pos hd] at h; exact absurd h hd
    · rw [if_neg hd] at h ⊢
      obtain ⟨r, h1, h2, h3⟩ := dec_canon hb (by simpa using hd)
      have ih := decs_canon n (l.drop (dec l).2.1) (hb.drop _) h
      have hr : l.drop (dec l).2.1 = r := by rw [h2]; have hx := List.drop_left (l₁ := enc (dec l).1) (l₂ := r); rwa [← h1] at hx
      rw [hr] at ih ⊢
      simp only [encs, List.flatMap_cons, Int.toNat_natCast, List.append_assoc] at ih ⊢
      rw [← ih]; exact h1
theorem octs_enc {most : Int} {b r : List Int} (h1 : (b.length : Int) ≤ most) (h2 : b.length ≤ 9007199254740991) : octs most (enc b.length ++ b ++ r) = (b, 0, r) := by
  have hd := dec_enc b.length h2 (b ++ r)
  rw [List.append_assoc]
  rw [octs_ok (by rw [hd]) (by rw [hd]; exact h1) (by rw [hd]; simp; omega), hd]
  simp only [List.drop_left, List.take_left, Prod.mk.injEq, true_and]
  rw [← List.append_assoc, List.drop_append, List.length_append, List.drop_of_length_le (by simp)]
  simp
theorem octs_canon {most : Int} {l : List Int} (hb : Byt l) (h : (octs most l).2.1 = 0) : l = enc (octs most l).1.length ++ (octs most l).1 ++ (octs most l).2.2 ∧ ((octs most l).1.length : Int) ≤ most := by
  unfold octs at h ⊢
  by_cases h0 : (dec l).2.2 ≠ 0
  · rw [if_pos h0] at h; exact absurd h h0
  · rw [if_neg h0] at h ⊢
    by_cases h1 : most < ((dec l).1 : Int)
    · rw [if_pos h1] at h; cases h
    · rw [if_neg h1] at h ⊢
      by_cases h2 : ((l.length - (dec l).2.1 : Nat) : Int) < ((dec l).1 : Int)
      · rw [if_pos h2] at h; cases h
      · rw [if_neg h2]
        obtain ⟨r, h3, h4, h5⟩ := dec_canon hb (by simpa using h0)
        have hr : l.drop (dec l).2.1 = r := by rw [h4]; have hx := List.drop_left (l₁ := enc (dec l).1) (l₂ := r); rwa [← h3] at hx
        have hrl : l.length - (dec l).2.1 = r.length := by rw [← hr]; simp
        have hl : ((l.drop (dec l).2.1).take (dec l).1).length = (dec l).1 := by rw [hr]; simp; omega
        simp only [hl]
        refine ⟨?_, by omega⟩
        rw [← List.drop_drop, hr, List.append_assoc, List.take_append_drop]
        exact h3

def nums8 (m : Msg) : List Int := [m.kind, m.origin, m.life, m.id, m.part, m.parts, m.groups, b2i m.safe]
def nums4 (m : Msg) : List Int := [m.stamp, m.rseq, m.rrep, m.kseq]
theorem msgNums_parts (m : Msg) : msgNums m = nums8 m ++ nums4 m := rfl
theorem msgOf_nums (m : Msg) : msgOf (nums8 m) (nums4 m) m.body = m := by
  obtain ⟨x1, x2, x3, x4, x5, x6, x7, x8, x9, x10, x11, x12, x13⟩ := m
  cases x8 <;> rfl
theorem unpackW_bytes {ck : Msg → Int} {m : Msg} {r : List Int} (hok : ∀ x ∈ msgNums m, okN x) (hl : m.body.length ≤ 160) :
    unpackW ck (bytesM m ++ r) = if 0 < r.length ∨ ck m ≠ 0 then (zeroMsg, 4) else (m, 0) := by
  have e : bytesM m ++ r = encs (nums8 m) ++ (encs (nums4 m) ++ (enc m.body.length ++ m.body ++ r)) := by
    simp only [bytesM, msgNums_parts, encs, List.flatMap_append, List.append_assoc]
  have hok2 : (∀ x ∈ nums8 m, okN x) ∧ ∀ x ∈ nums4 m, okN x := ⟨fun x hx => hok x (by rw [msgNums_parts]; exact List.mem_append_left _ hx), fun x hx => hok x (by rw [msgNums_parts]; exact List.mem_append_right _ hx)⟩
  have h8 : decs 8 (bytesM m ++ r) = (nums8 m, 0, encs (nums4 m) ++ (enc m.body.length ++ m.body ++ r)) := by rw [e]; exact decs_encs (nums8 m) _ hok2.1
  have h4 : decs 4 (encs (nums4 m) ++ (enc m.body.length ++ m.body ++ r)) = (nums4 m, 0, enc m.body.length ++ m.body ++ r) := decs_encs (nums4 m) _ hok2.2
  have ho : octs 160 (enc m.body.length ++ m.body ++ r) = (m.body, 0, r) := octs_enc (by omega) (by omega)
  have h7 : ¬ 1 < (nums8 m).getD 7 0 := by show ¬ 1 < b2i m.safe; unfold b2i; split <;> omega
  unfold unpackW
  rw [h8]
  simp only
  rw [h4]
  simp only
  rw [ho]
  simp only [msgOf_nums, h7, if_false, ne_eq, not_true_eq_false]
theorem unpack_bytes {m : Msg} (h : check m = 0) : unpack (bytesM m) = (m, 0) := by
  have := unpackW_bytes (ck := check) (r := []) (msgNums_ok h) (check_ok h).1
  rw [List.append_nil] at this
  rw [unpack_eq, this, if_neg (by simp [h])]
theorem unpack_canon {l : List Int} (hb : Byt l) (h : (unpack l).2 = 0) : check (unpack l).1 = 0 ∧ bytesM (unpack l).1 = l := by
  rw [unpack_eq] at h ⊢
  unfold unpackW at h ⊢
  by_cases h8 : (decs 8 l).2.1 ≠ 0
  · rw [if_pos h8] at h; exact absurd h h8
  rw [if_neg h8] at h ⊢
  by_cases h7 : 1 < (decs 8 l).1.getD 7 0
  · rw [if_pos h7] at h; cases h
  rw [if_neg h7] at h ⊢
  by_cases h4 : (decs 4 (decs 8 l).2.2).2.1 ≠ 0
  · rw [if_pos h4] at h; exact absurd h h4
  rw [if_neg h4] at h ⊢
  by_cases ho : (octs 160 (decs 4 (decs 8 l).2.2).2.2).2.1 ≠ 0
  · rw [if_pos ho] at h; exact absurd h ho
  rw [if_neg ho] at h ⊢
  by_cases hc : 0 < (octs 160 (decs 4 (decs 8 l).2.2).2.2).2.2.length ∨ check (msgOf (decs 8 l).1 (decs 4 (decs 8 l).2.2).1 (octs 160 (decs 4 (decs 8 l).2.2).2.2).1) ≠ 0
  · rw [if_pos hc] at h; cases h
  rw [if_neg hc]
  simp only [not_or, Nat.not_lt] at hc
  simp only [ne_eq, Decidable.not_not] at h8 h4 ho hc
  have c8 := decs_canon 8 l hb h8
  have c4 := decs_canon 4 _ (decs_rest_byt 8 hb) h4
  have co := (octs_canon (decs_rest_byt 4 (decs_rest_byt 8 hb)) ho).1
  have l8 := (decs_len 8 l).2 h8
  have l4 := (decs_len 4 _).2 h4
  have b8 := decs_bound 8 l
  refine ⟨hc.2, ?_⟩
  generalize (octs 160 (decs 4 (decs 8 l).2.2).2.2).1 = body at *
  have hnil : (octs 160 (decs 4 (decs 8 l).2.2).2.2).2.2 = [] := List.eq_nil_of_length_eq_zero (by omega)
  rw [hnil, List.append_nil] at co
  rw [co] at c4
  rw [c4] at c8
  generalize (decs 4 (decs 8 l).2.2).1 = x4 at *
  generalize (decs 8 l).1 = x8 at *
  obtain ⟨w0, w1, w2, w3, rfl⟩ := four l4
  obtain ⟨v0, v1, v2, v3, v4, v5, v6, v7, rfl⟩ : ∃ v0 v1 v2 v3 v4 v5 v6 v7, x8 = [v0, v1, v2, v3, v4, v5, v6, v7] := by
    match x8, l8 with
    | [a, b, c, d, e, f, g, h], _ => exact ⟨a, b, c, d, e, f, g, h, rfl⟩
  have h7' : v7 ≤ 1 := by simpa using h7
  have h70 : 0 ≤ v7 := (b8 v7 (by simp)).1
  have e7 : b2i (decide (v7 = 1)) = v7 := by
    unfold b2i
    have : v7 = 0 ∨ v7 = 1 := by omega
    rcases this with rfl | rfl <;> simp
  rw [c8]
  show encs (nums8 (msgOf [v0, v1, v2, v3, v4, v5, v6, v7] [w0, w1, w2, w3] body) ++ nums4 (msgOf [v0, v1, v2, v3, v4, v5, v6, v7] [w0, w1, w2, w3] body)) ++ enc body.length ++ body = _
  have e8 : nums8 (msgOf [v0, v1, v2, v3, v4, v5, v6, v7] [w0, w1, w2, w3] body) = [v0, v1, v2, v3, v4, v5, v6, v7] := by
    show [v0, v1, v2, v3, v4, v5, v6, b2i (decide (v7 = 1))] = _
    rw [e7]
  rw [e8]
  simp only [encs, List.flatMap_append, List.append_assoc]
  rfl

end Go.Proofs.YtkolmkdbjagfcaaGreat

namespace Go.Proofs.YtkolmkdbjagfcaaGreat
open Go.Hb
attribute [local irreducible] LR CW At Ev thn blk finK noG again CallsTo DW QL dnext
set_option maxRecDepth 100000

theorem encF_byt : ∀ (m y : Nat), y < 128 ^ (m + 1) → Byt (encF m y)
  | 0, y, h => fun b hb => by simp [encF] at hb h; omega
  | m + 1, y, h => by
    rw [encF]
    split
    · intro b hb; simp at hb; omega
    · intro b hb
      rcases List.mem_cons.1 hb with rfl | hb
      · omega
      · exact encF_byt m (y / 128) (by rw [Nat.pow_succ] at h; omega) b hb
theorem enc_byt {x : Nat} (h : x ≤ 9007199254740991) : Byt (enc x) := encF_byt 8 x (by have : (128 : Nat) ^ 9 = 9223372036854775808 := by decide
                                                                                       omega)
theorem Byt.append {l r : List Int} (h : Byt l) (h' : Byt r) : Byt (l ++ r) := fun b hb => by
  rcases List.mem_append.1 hb with hb | hb
  · exact h b hb
  · exact h' b hb
theorem encs_byt {xs : List Int} (h : ∀ x ∈ xs, okN x) : Byt (encs xs) := by
  intro b hb
  obtain ⟨x, hx, hb⟩ := List.mem_flatMap.1 hb
  have := h x hx
  unfold okN at this
  exact enc_byt (by omega) b hb
theorem Byt.bytes {m : Msg} (hb : Byt m.body) (h : check m = 0) : Byt (bytesM m) :=
  ((encs_byt (msgNums_ok h)).append (enc_byt (by have := (check_ok h).1; omega))).append hb

end Go.Proofs.YtkolmkdbjagfcaaGreat

namespace Go.Proofs.YtkolmkdbjagfcaaGreat
open Go.Hb
attribute [local irreducible] LR CW At Ev thn blk finK noG again CallsTo DW QL dnext
set_option maxRecDepth 100000

def bring (i n : Int) : Int := if n ≤ 0 then 0 else if i.tmod n < 0 then i.tmod n + n else i.tmod n
theorem tmod_bd (i n : Int) (h : 0 < n) : -n < i.tmod n ∧ i.tmod n < n := by
  have h1 := Int.tmod_lt_of_pos i h
  have h2 := Int.tmod_lt_of_pos (-i) h
  rw [Int.neg_tmod] at h2
  omega
theorem bring_bd (i n : Int) (h : 0 < n) : 0 ≤ bring i n ∧ bring i n < n := by
  have := tmod_bd i n h
  unfold bring; rw [if_neg (by omega)]; split <;> omega
theorem c31 (i n : Int) (w : World) (hn : n ≤ 9223372036854775807) : CallsTo Tryz.prog 70 [.int .i64 i, .int .i64 n] w fun v w' => v = .int .i64 (bring i n) ∧ Grew w w' := by
  refine go_in (n := 16) (St.refl _ NoF) Tryz.func70 rfl rfl ?_
  by_cases h : n ≤ 0
  · repeat'(first|refine kv' ?_|apply jJ|refine jE' ?_|refine jp' ?_|(apply jc;kernel_rfl)|refine kg' ?_|refine kG' ?_|refine kB' fun _=>?_|refine kA' fun _=>?_|refine kK' fun _=>?_|refine kU' ?_|((first|refine kR' ?_ ?_|refine kQ' ?_ ?_);all_goals(intro hc;try simp only[hcs]at hc;try(exfalso;first|contradiction|omega))))
    (apply ret1; (· exact rfl); intro w' hS)
    exact ⟨congrArg (Value.int .i64) (by unfold bring; rw [if_pos h]), hS⟩
  · have hb := tmod_bd i n (by omega)
    repeat'(first|refine kv' ?_|apply jJ|refine jE' ?_|refine jp' ?_|(apply jc;kernel_rfl)|refine kg' ?_|refine kG' ?_|refine kB' fun _=>?_|refine kA' fun _=>?_|refine kK' fun _=>?_|refine kU' ?_|(apply LR.ev; (· apply Ev.rem; (· exact rfl); (· exact rfl); (· first | decide | omega)); (· exact rfl))|(apply addX;(iterate 2 exact rfl);(iterate 2(first|omega|(dsimp only;omega)));exact rfl)|((first|refine kR' ?_ ?_|refine kQ' ?_ ?_);all_goals(intro hc;try simp only[hcs]at hc;try(exfalso;first|contradiction|omega))))
    all_goals (
      (apply ret1; (· exact rfl); intro w' hS)
      refine ⟨congrArg (Value.int .i64) ?_, hS⟩
      unfold bring; rw [if_neg h]
      first | rw [if_pos (by omega)] | rw [if_neg (by omega)])

structure Dat where
  rseq : Int
  rrep : Int
  seq : Int
  sender : Int
  stamp : Int
  msg : Msg
def Dat.cells (d : Dat) (a : Option Addr) (c : Nat) : List Value := .int .i64 d.rseq :: .int .i64 d.rrep :: .int .i64 d.seq :: .int .i64 d.sender :: .int .i64 d.stamp :: d.msg.cells a c
def Dat.val (d : Dat) (a : Option Addr) (c : Nat) : Value := .agg (d.cells a c).toArray
def zeroDat : Dat := ⟨0, 0, 0, 0, 0, zeroMsg⟩
def mayOld (d : Dat) : Bool := decide (¬ (d.rseq = 0 ∧ d.rrep = 0) ∧ ringE d.rseq d.rrep = 0 ∧ 1 ≤ d.seq ∧ d.seq ≤ 9007199254740991 ∧ 1 ≤ d.sender ∧ d.sender ≤ 8 ∧ 0 ≤ d.stamp ∧ d.stamp ≤ 9007199254740991)
def oldM (d : Dat) : Msg := ⟨5, d.sender, 0, d.sender, 0, 0, 0, false, d.stamp, d.rseq, d.rrep, d.seq, bytesM d.msg⟩
def old (d : Dat) : Msg × Int := if mayOld d = true ∧ check d.msg = 0 ∧ d.msg.kind ≠ 5 then (oldM d, 0) else (zeroMsg, 2)
def sameD (x y : Dat) : Bool := decide ([x.rseq, x.rrep] = [y.rseq, y.rrep] ∧ x.seq = y.seq ∧ x.sender = y.sender ∧ x.stamp = y.stamp ∧ sameB x.msg y.msg = true)
theorem sameD_self (x : Dat) : sameD x x = true := by simp [sameD, sameB_self]
set_option maxHeartbeats 2000000 in
theorem c84 (x y : Dat) (a b : Option Addr) (c d : Nat) (w : World) (hx : Rd w a (bv x.msg.body)) (hy : Rd w b (bv y.msg.body)) (hm : x.msg.body.length ≤ 140737488355328) :
    CallsTo Tryz.prog 52 [x.val a c, y.val b d] w fun v w' => v = .bool (sameD x y) ∧ Grew w w' := by
  refine go_in (n := 38) (St.rd2 hx hy) Tryz.func52 rfl rfl ?_
  repeat'(first|refine kv' ?_|apply jJ|refine jE' ?_|refine jp' ?_|(apply jc;kernel_rfl)|refine kg' ?_|refine kG' ?_|refine kB' fun _=>?_|refine kA' fun _=>?_|refine kK' fun _=>?_|refine kU' ?_|(apply kq; (· exact rfl); (· intro w1 h1; have hq := CallsTo.q (c20 x.msg y.msg a b c d w1 (h1.rd_of memZ) (h1.rd_of memZ) (by omega)) h1; show CallsTo Tryz.prog 97 [x.msg.val a c, y.msg.val b d] w1 _; exact hq))|((first|refine kR' ?_ ?_|refine kQ' ?_ ?_);all_goals(intro hc;try simp only[hcs]at hc;try(exfalso;first|contradiction|omega))))
  all_goals (
    (apply ret1; (· exact rfl); intro w' hS)
    refine ⟨congrArg Value.bool ?_, hS.toKeep⟩
    unfold sameD
    simp_all)
end Go.Proofs.YtkolmkdbjagfcaaGreat

namespace Go.Proofs.YtkolmkdbjagfcaaGreat
open Go.Hb Go.ChangeShapes Go.WideShapes
attribute [local irreducible] LR CW At Ev thn blk finK noG again CallsTo DW QL dnext TW
set_option maxRecDepth 100000

theorem encF_lenle : ∀ (k m y : Nat), y < 128 ^ (k + 1) → (encF m y).length ≤ k + 1
  | k, 0, y, _ => by simp [encF]
  | 0, m + 1, y, h => by rw [encF_small _ _ (by omega)]; simp
  | k + 1, m + 1, y, h => by
    rw [encF]
    split
    · simp
    · have := encF_lenle k m (y / 128) (by rw [Nat.pow_succ] at h; omega)
      simp; omega
theorem enc_len2 {x : Nat} (h : x < 16384) : (enc x).length ≤ 2 := encF_lenle 1 8 x (by omega)
theorem enc_len8 {x : Nat} (h : x ≤ 9007199254740991) : (enc x).length ≤ 8 := by
  have h8 : (128 : Nat) ^ 8 = 72057594037927936 := by decide
  exact encF_lenle 7 8 x (by omega)
end Go.Proofs.YtkolmkdbjagfcaaGreat

namespace Go.Proofs.YtkolmkdbjagfcaaGreat
open Go.Hb Go.ChangeShapes Go.WideShapes
attribute [local irreducible] LR CW At Ev thn blk finK noG again CallsTo DW QL dnext TW
set_option maxRecDepth 100000

end Go.Proofs.YtkolmkdbjagfcaaGreat

namespace Go.Hb
set_option linter.unusedSimpArgs false
set_option linter.unusedVariables false

abbrev polC : BitVec 32 := 0xEDB88320#32
def crcB (x : BitVec 32) : BitVec 32 := if x.getLsbD 0 then (x >>> 1) ^^^ polC else x >>> 1
def crcN : Nat → BitVec 32 → BitVec 32
  | 0, x => x
  | k + 1, x => crcN k (crcB x)
theorem xor_swap4 (a b c d : BitVec 32) : (a ^^^ b) ^^^ (c ^^^ d) = (a ^^^ c) ^^^ (b ^^^ d) := by
  rw [BitVec.xor_assoc, ← BitVec.xor_assoc b, BitVec.xor_comm b c, BitVec.xor_assoc c, ← BitVec.xor_assoc]
theorem crcB_xor (x y : BitVec 32) : crcB (x ^^^ y) = crcB x ^^^ crcB y := by
  unfold crcB
  rw [BitVec.getLsbD_xor, BitVec.ushiftRight_xor_distrib]
  cases x.getLsbD 0 <;> cases y.getLsbD 0 <;> simp only [Bool.xor_false, Bool.xor_true, Bool.not_false, Bool.not_true, Bool.false_eq_true, if_true, if_false]
  · rw [BitVec.xor_assoc]
  · rw [BitVec.xor_assoc, BitVec.xor_assoc, BitVec.xor_comm polC]
  · rw [xor_swap4, BitVec.xor_self, BitVec.xor_zero]
theorem crcN_xor : ∀ (k : Nat) (x y : BitVec 32), crcN k (x ^^^ y) = crcN k x ^^^ crcN k y
  | 0, _, _ => rfl
  | k + 1, x, y => by unfold crcN; rw [crcB_xor, crcN_xor k]
theorem crcN_low : ∀ (k : Nat) (x : BitVec 32), (∀ i, i < k → x.getLsbD i = false) → crcN k x = x >>> k
  | 0, x, _ => (BitVec.ushiftRight_zero x).symm
  | k + 1, x, h => by
    have h0 : crcB x = x >>> 1 := by unfold crcB; rw [h 0 (by omega)]; rfl
    unfold crcN
    rw [h0, crcN_low k _ (fun i hi => by rw [BitVec.getLsbD_ushiftRight]; exact h (1 + i) (by omega)), ← BitVec.shiftRight_add, Nat.add_comm]
theorem crc_split (x : BitVec 32) : crcN 8 x = crcN 8 (x &&& 255#32) ^^^ (x >>> 8) := by
  have e : x = (x &&& 255#32) ^^^ (x &&& ~~~ 255#32) := by
    refine BitVec.eq_of_getLsbD_eq fun i hi => ?_
    simp only [BitVec.getLsbD_xor, BitVec.getLsbD_and, BitVec.getLsbD_not, hi, decide_true, Bool.true_and]
    cases x.getLsbD i <;> cases (255#32).getLsbD i <;> rfl
  have hlow : ∀ i, i < 8 → (255#32).getLsbD i = true := by decide
  have hhigh : ∀ i, i < 32 → 8 ≤ i → (255#32).getLsbD i = false := by decide
  have e2 : (x &&& ~~~ 255#32) >>> 8 = x >>> 8 := by
    refine BitVec.eq_of_getLsbD_eq fun i hi => ?_
    rw [BitVec.getLsbD_ushiftRight, BitVec.getLsbD_ushiftRight, BitVec.getLsbD_and, BitVec.getLsbD_not]
    by_cases h : 8 + i < 32
    · rw [hhigh _ h (by omega), decide_eq_true h]; simp
    · rw [BitVec.getLsbD_of_ge _ _ (by omega)]; rfl
  conv => lhs; rw [e]
  rw [crcN_xor, crcN_low 8 (x &&& ~~~ 255#32), e2]
  intro i hi
  rw [BitVec.getLsbD_and, BitVec.getLsbD_not, hlow i hi, Bool.not_true, Bool.and_false, Bool.and_false]
theorem crcB_inj {x y : BitVec 32} (h : crcB x = crcB y) : x = y := by
  have top : ∀ z : BitVec 32, (crcB z).getLsbD 31 = z.getLsbD 0 := by
    intro z
    unfold crcB
    cases hz : z.getLsbD 0
    · simp only [Bool.false_eq_true, if_false]
      rw [BitVec.getLsbD_ushiftRight]; exact BitVec.getLsbD_of_ge _ _ (by omega)
    · simp only [if_true]
      rw [BitVec.getLsbD_xor, BitVec.getLsbD_ushiftRight, BitVec.getLsbD_of_ge z _ (by omega)]
      decide
  have h0 : x.getLsbD 0 = y.getLsbD 0 := by rw [← top, ← top, h]
  have h1 : x >>> 1 = y >>> 1 := by
    unfold crcB at h
    rw [h0] at h
    cases hy : y.getLsbD 0
    · rw [hy] at h; exact h
    · rw [hy] at h
      simp only [if_true] at h
      have h2 := congrArg (fun z => z ^^^ polC) h
      simp only [BitVec.xor_assoc, BitVec.xor_self, BitVec.xor_zero] at h2
      exact h2
  refine BitVec.eq_of_getLsbD_eq fun i hi => ?_
  cases i with
  | zero => exact h0
  | succ i =>
    have h3 := congrArg (fun z => z.getLsbD i) h1
    simp only [BitVec.getLsbD_ushiftRight] at h3
    rwa [Nat.add_comm]
theorem crcN_inj : ∀ (k : Nat) {x y : BitVec 32}, crcN k x = crcN k y → x = y
  | 0, _, _, h => h
  | k + 1, _, _, h => crcB_inj (crcN_inj k h)
abbrev B32 (c : Int) : BitVec 32 := BitVec.ofInt 32 c
abbrev U32 (x : BitVec 32) : Int := (x.toNat : Int)
def crcS (x : BitVec 32) (c : Int) : BitVec 32 := crcN 8 (x ^^^ B32 c)
def crcF (x : BitVec 32) (l : List Int) : BitVec 32 := l.foldl crcS x
def crcL (l : List Int) : BitVec 32 := ~~~ crcF 0xFFFFFFFF#32 l
theorem xor_cancel {a b c : BitVec 32} (h : a ^^^ c = b ^^^ c) : a = b := by
  have h2 := congrArg (fun z => z ^^^ c) h
  simpa only [BitVec.xor_assoc, BitVec.xor_self, BitVec.xor_zero] using h2
theorem crcS_inj {x y : BitVec 32} {c : Int} (h : crcS x c = crcS y c) : x = y := xor_cancel (crcN_inj 8 h)
theorem crcS_inj2 {x : BitVec 32} {c d : Int} (h : crcS x c = crcS x d) : B32 c = B32 d := by
  have h2 := crcN_inj 8 h
  rw [BitVec.xor_comm x, BitVec.xor_comm x] at h2
  exact xor_cancel h2
theorem crcF_inj : ∀ {l : List Int} {x y : BitVec 32}, crcF x l = crcF y l → x = y
  | [], _, _, h => h
  | c :: r, x, y, h => crcS_inj (crcF_inj (l := r) h)
theorem crcF_app (x : BitVec 32) (l r : List Int) : crcF x (l ++ r) = crcF (crcF x l) r := List.foldl_append
theorem crcL_set {l : List Int} {i : Nat} {d : Int} (hi : i < l.length) (h : crcL (l.set i d) = crcL l) : B32 d = B32 l[i] := by
  have h1 : crcF 0xFFFFFFFF#32 (l.set i d) = crcF 0xFFFFFFFF#32 l := by
    unfold crcL at h
    have h2 := congrArg (fun z => ~~~ z) h
    simpa only [BitVec.not_not] using h2
  rw [List.set_eq_take_append_cons_drop, if_pos hi] at h1
  have e : l = l.take i ++ l[i] :: l.drop (i + 1) := by rw [← List.drop_eq_getElem_cons hi, List.take_append_drop]
  conv at h1 => rhs; rw [e]
  rw [crcF_app, crcF_app] at h1
  exact crcS_inj2 (crcF_inj (l := l.drop (i + 1)) h1)
theorem B32_byte {c d : Int} (hc : 0 ≤ c) (hc' : c < 256) (hd : 0 ≤ d) (hd' : d < 256) (h : B32 c = B32 d) : c = d := by
  have h1 := congrArg BitVec.toNat h
  rw [BitVec.toNat_ofInt, BitVec.toNat_ofInt] at h1
  omega
def byteK (x : BitVec 32) (k : Nat) : Int := ((x >>> k).toNat : Int) % 256
def sealL (l : List Int) : List Int := l ++ [byteK (crcL l) 24, byteK (crcL l) 16, byteK (crcL l) 8, byteK (crcL l) 0]
theorem sealL_len (l : List Int) : (sealL l).length = l.length + 4 := by simp [sealL]
theorem byteK_bd (x : BitVec 32) (k : Nat) : 0 ≤ byteK x k ∧ byteK x k < 256 := by unfold byteK; omega
def openL (b : List Int) : List Int × Int :=
  if b.length < 4 then ([], 3) else if sealL (b.take (b.length - 4)) = b then (b.take (b.length - 4), 0) else ([], 60)
theorem open_seal (l : List Int) : openL (sealL l) = (l, 0) := by
  unfold openL
  rw [if_neg (by rw [sealL_len]; omega)]
  have e : (sealL l).take ((sealL l).length - 4) = l := by
    rw [sealL_len, show l.length + 4 - 4 = l.length by omega]
    unfold sealL
    exact List.take_left ..
  rw [e, if_pos rfl]
theorem open_turned {l : List Int} {i : Nat} {d : Int} (hi : i < (sealL l).length) (hb : ∀ x ∈ l, 0 ≤ x ∧ x < 256) (hd : 0 ≤ d ∧ d < 256) (hne : (sealL l)[i] ≠ d) : openL ((sealL l).set i d) = ([], 60) := by
  have hlen : ((sealL l).set i d).length = l.length + 4 := by rw [List.length_set, sealL_len]
  unfold openL
  rw [if_neg (by omega), if_neg]
  rw [hlen, show l.length + 4 - 4 = l.length by omega]
  intro h
  by_cases hil : i < l.length
  · have e1 : ((sealL l).set i d).take l.length = l.set i d := by
      rw [List.take_set]
      unfold sealL
      rw [List.take_left]
    rw [e1] at h
    have e2 : (sealL l)[i] = l[i] := by unfold sealL; exact List.getElem_append_left hil
    rw [e2] at hne
    -- the checks are the same
    have h2 : ∀ k, (h2 : k < 4) → (sealL (l.set i d))[l.length + k]? = (sealL l)[l.length + k]? := fun k hk => by
      rw [h, List.getElem?_set_ne (by omega)]
    have h3 : ∀ (m : List Int) k, k < 4 → (sealL m)[m.length + k]? = [byteK (crcL m) 24, byteK (crcL m) 16, byteK (crcL m) 8, byteK (crcL m) 0][k]? := fun m k hk => by
      unfold sealL
      rw [List.getElem?_append_right (by omega), Nat.add_sub_cancel_left]
    have h4 : ∀ k, k < 4 → [byteK (crcL (l.set i d)) 24, byteK (crcL (l.set i d)) 16, byteK (crcL (l.set i d)) 8, byteK (crcL (l.set i d)) 0][k]? = [byteK (crcL l) 24, byteK (crcL l) 16, byteK (crcL l) 8, byteK (crcL l) 0][k]? := fun k hk => by
      rw [← h3 _ k hk, ← h3 _ k hk, List.length_set]; exact h2 k hk
    have b0 := h4 0 (by omega)
    have b1 := h4 1 (by omega)
    have b2 := h4 2 (by omega)
    have b3 := h4 3 (by omega)
    simp only [List.getElem?_cons_zero, List.getElem?_cons_succ, Option.some.injEq] at b0 b1 b2 b3
    have hcrc : crcL (l.set i d) = crcL l := by
      refine BitVec.eq_of_toNat_eq ?_
      unfold byteK at b0 b1 b2 b3
      simp only [BitVec.toNat_ushiftRight, Nat.shiftRight_eq_div_pow] at b0 b1 b2 b3
      have l1 := (crcL (l.set i d)).isLt
      have l2 := (crcL l).isLt
      omega
    have h5 := crcL_set hil hcrc
    have h6 := hb l[i] (List.getElem_mem hil)
    exact hne (B32_byte hd.1 hd.2 h6.1 h6.2 h5).symm
  · have e1 : ((sealL l).set i d).take l.length = l := by
      rw [List.take_set_of_le (by omega)]
      unfold sealL
      exact List.take_left ..
    rw [e1] at h
    have h2 := congrArg (fun z => z[i]?) h
    simp only [List.getElem?_set_self hi] at h2
    rw [List.getElem?_eq_getElem hi] at h2
    exact hne (Option.some.inj h2)
end Go.Hb
