/-
  The readers of the layer word and of its reference: a number at the front.
-/
import Derived.Test.YtomlgnncncjmaaaA5
-- all by hand
namespace Go.Proofs.Ytomlgnncncjmaaa
open Go.Hb
attribute [local irreducible] LR CW At Ev thn blk finK noG again CallsTo
set_option linter.unusedSimpArgs false
set_option linter.unusedVariables false
set_option maxRecDepth 100000

def decF : Nat → Nat → Nat → List Int → Nat × Nat × Int
  | 0, _, _, _ => (0, 0, 4)
  | _ + 1, _, _, [] => (0, 0, 3)
  | k + 1, i, acc, x :: r =>
    if x < 128 then (if (0 < i ∧ x = 0) ∨ 9007199254740991 < acc + x.toNat % 128 * 128 ^ i then (0, 0, 4) else (acc + x.toNat % 128 * 128 ^ i, i + 1, 0))
    else decF k (i + 1) (acc + x.toNat % 128 * 128 ^ i) r
/-- A number at the front, how many bytes it has, what is wrong. -/
def dec (l : List Int) : Nat × Nat × Int := decF 8 0 0 l
def Byt (l : List Int) : Prop := ∀ b ∈ l, 0 ≤ b ∧ b < 256
def tup3 (r : Nat × Nat × Int) : Value := .tuple [.int .i64 (r.1 : Int), .int .i64 (r.2.1 : Int), .int .i64 r.2.2].toArray

theorem decF_bound : ∀ k i acc l, (decF k i acc l).2.1 ≤ i + k ∧ ((decF k i acc l).2.2 = 0 → (decF k i acc l).2.1 ≤ i + l.length ∧ (decF k i acc l).1 ≤ 9007199254740991)
  | 0, i, acc, l => by simp [decF]
  | k + 1, i, acc, [] => by simp [decF]
  | k + 1, i, acc, x :: r => by
    unfold decF
    split
    · split
      · simp
      · rename_i h; simp only [not_or] at h; simp; omega
    · have := decF_bound k (i + 1) (acc + x.toNat % 128 * 128 ^ i) r
      simp only [List.length_cons]; omega

def rrP (T : Nat) (ex : List Value) (br : Nat) (a : Option Addr) (c : Nat) (l : List Int) : World → Prop := fun w =>
  w.heap[br]? = some (.cells (.slice a l.length c :: ex).toArray T (0, 0)) ∧ Rd w a (bv l) ∧ l.length ≤ c ∧ (a = none → c = 0) ∧ (∀ k, rdFoot a (bv l) k → k ≠ br)
def rrF (br : Nat) (a : Option Addr) (l : List Int) : Nat → Prop := fun k => k = br ∨ rdFoot a (bv l) k
/-- The reader at br has l left. -/
def rrA (T : Nat) (ex : List Value) (br : Nat) (a : Option Addr) (c : Nat) (l : List Int) : Asrt := .ex (rrF br a l) (rrP T ex br a c l)
def rr1 (T : Nat) (ex : List Value) (br : Nat) (a : Option Addr) (c : Nat) (l : List Int) : Asrt := .own br (.cells (.slice a l.length c :: ex).toArray T (0, 0))
def rr2 (a : Option Addr) (l : List Int) : Asrt := .ex (rdFoot a (bv l)) (fun w => Rd w a (bv l))
theorem rr2_dep (a : Option Addr) (l : List Int) : (rr2 a l).dep := Rd.dep a (bv l)
theorem rrA_dep (T : Nat) (ex : List Value) (br : Nat) (a : Option Addr) (c : Nat) (l : List Int) : (rrA T ex br a c l).dep := by
  intro w w' hk ⟨h1, h2, h3⟩
  exact ⟨by rw [hk br (.inl rfl)]; exact h1, Rd.dep a (bv l) w w' (fun k hk2 => hk k (.inr hk2)) h2, h3⟩
theorem rr_live {T : Nat} {ex : List Value} {w : World} {br : Nat} {a : Option Addr} {c : Nat} {l : List Int} (h : rrP T ex br a c l w) : ∀ k, rrF br a l k → k < w.heap.size := by
  rintro k (rfl | hk)
  · exact (Array.getElem?_eq_some_iff.1 h.1).1
  · exact h.2.1.live k hk
theorem rr_open {T : Nat} {ex : List Value} {w0 w : World} {F : Nat → Prop} {R : List Asrt} {br : Nat} {a : Option Addr} {c : Nat} {l : List Int} (h : St w0 F (rrA T ex br a c l :: R) w) : St w0 F (rr1 T ex br a c l :: rr2 a l :: R) w := by
  have hh : rrP T ex br a c l w := h.holds _ (List.Mem.head _)
  refine h.split rfl hh.1 hh.2.1 (fun k hk => .inl hk) (fun k hk => .inr hk) (fun k hk hk2 => ?_) (Asrt.dep_own _ _) (rr2_dep _ _)
  exact hh.2.2.2.2 k hk2 hk
theorem rr_shut {T : Nat} {ex : List Value} {w0 w : World} {F : Nat → Prop} {R : List Asrt} {br : Nat} {a : Option Addr} {c : Nat} {l : List Int} (h : St w0 F (rr1 T ex br a c l :: rr2 a l :: R) w) (hc : l.length ≤ c) (hz : a = none → c = 0) : St w0 F (rrA T ex br a c l :: R) w := by
  refine h.merge rfl rfl ⟨h.holds _ (List.Mem.head _), h.holds _ (List.Mem.tail _ (List.Mem.head _)), hc, hz, fun k hk hb => ?_⟩ (fun k hk => hk) (rrA_dep _ _ _ _ _ _)
  obtain ⟨d1, _⟩ := List.pairwise_cons.1 h.dis
  exact d1 (rr2 a l) (by simp) rfl k hb hk
theorem rr_start {T : Nat} {ex : List Value} {w : World} {br : Nat} {a : Option Addr} {c : Nat} {l : List Int} (h : rrP T ex br a c l w) : St w (rrF br a l) [rr1 T ex br a c l, rr2 a l] w :=
  rr_open (St.one (a := rrA T ex br a c l) h (rr_live h) (rrA_dep _ _ _ _ _ _))
theorem rr_end {T : Nat} {ex : List Value} {w w' : World} {R : List Asrt} {br : Nat} {a a' : Option Addr} {c c' : Nat} {l l' : List Int} (h : St w (rrF br a l) (rr1 T ex br a' c' l' :: rr2 a' l' :: R) w') (hc : l'.length ≤ c') (hz : a' = none → c' = 0) : Step (rrA T ex br a c l) (rrA T ex br a' c' l') w w' :=
  St.step (R := R) (rr_shut h hc hz) rfl
/-- The bytes left are fewer: those that are behind. -/
theorem rr_drop {w0 w : World} {F : Nat → Prop} {R : List Asrt} {x : Asrt} {a : Option Addr} {c n : Nat} {l : List Int} (h : St w0 F (x :: rr2 a l :: R) w) (hc : l.length ≤ c) : St w0 F (x :: rr2 (subA a c n 1) (l.drop n) :: R) w := by
  have hr : Rd w a (bv l) := h.holds _ (List.Mem.tail _ (List.Mem.head _))
  have hd : Rd w (subA a c n 1) (bv (l.drop n)) := by
    have := hr.drop (l := n) (sz := 1) (c := c) (fun e => by simp; omega)
    simpa using this
  have hs : Sel (x :: rr2 a l :: R) (rr2 a l) (rr2 (subA a c n 1) (l.drop n)) (x :: rr2 (subA a c n 1) (l.drop n) :: R) := Sel.tail _ (Sel.head _ _ _)
  refine h.turn hs rfl (St.refl w _) hd (fun k hk => .inl ?_) (rr2_dep _ _)
  obtain ⟨hne, ad, ha, rfl⟩ := hk
  refine ⟨fun e => hne (by rw [bv_drop, e]; simp), ?_⟩
  unfold subA at ha
  split at ha
  · exact ⟨ad, ha, rfl⟩
  · cases a with
    | none => cases ha
    | some a0 => simp only [Option.map_some, Option.some.injEq] at ha; subst ha; exact ⟨a0, rfl, addr_add_block _ _⟩
theorem subA_none {a : Option Addr} {c n : Nat} (hz : a = none → c = 0) : subA a c n 1 = none → c - n = 0 := by
  unfold subA
  intro h
  split at h
  · omega
  · cases a with
    | none => rw [hz rfl]; omega
    | some a0 => cases h
theorem rr_rd {T : Nat} {ex : List Value} {w : World} {br : Nat} {a : Option Addr} {c : Nat} {l : List Int} (h : rrP T ex br a c l w) : St w NoF [rdA (some ⟨br, 0, none⟩) (.slice a l.length c :: ex), rdA a (bv l)] w :=
  St.rd2 (fun j u hj => ⟨_, rfl, by rw [addr_add, cell_own h.1]; simpa using hj⟩) h.2.1

theorem andNot128 : ∀ a : Nat, a < 256 → andNotI .u8 (a : Int) 128 = ((a % 128 : Nat) : Int) := by decide +kernel
theorem or_add {a b k : Nat} (ha : a < 2 ^ k) (hs : a + b * 2 ^ k < 18446744073709551616) : orI .u64 (a : Int) ((b * 2 ^ k : Nat) : Int) = ((a + b * 2 ^ k : Nat) : Int) := by
  unfold orI
  have e1 : (BitVec.ofInt IntKind.u64.bits (a : Int)) = BitVec.ofNat 64 a := rfl
  have e2 : (BitVec.ofInt IntKind.u64.bits ((b * 2 ^ k : Nat) : Int)) = BitVec.ofNat 64 (b * 2 ^ k) := rfl
  rw [e1, e2]
  have e3 : (BitVec.ofNat 64 a ||| BitVec.ofNat 64 (b * 2 ^ k)).toNat = a + b * 2 ^ k := by
    rw [BitVec.toNat_or, BitVec.toNat_ofNat, BitVec.toNat_ofNat, Nat.mod_eq_of_lt (by omega), Nat.mod_eq_of_lt (by omega)]
    rw [Nat.or_comm, Nat.mul_comm, ← Nat.two_pow_add_eq_or_of_lt ha, Nat.add_comm]
  show IntKind.u64.wrap (((BitVec.ofNat 64 a ||| BitVec.ofNat 64 (b * 2 ^ k)).toNat : Nat) : Int) = _
  rw [e3, wrap_u64 (by omega) (by omega)]
theorem pow128 (i : Nat) : 128 ^ i = 2 ^ (7 * i) := by rw [Nat.pow_mul]
theorem pow128_le {i : Nat} (h : i ≤ 8) : 128 ^ i ≤ 72057594037927936 := by
  have : 128 ^ i ≤ 128 ^ 8 := Nat.pow_le_pow_right (by omega) h
  have e : (128 : Nat) ^ 8 = 72057594037927936 := by decide
  omega

theorem c100 (br : Nat) (a : Option Addr) (c : Nat) (l : List Int) (w : World) (h : rrP 120 [.bool true] br a c l w) (hb : Byt l) (hm : l.length ≤ 281474976710656) :
    CallsTo Try.prog 100 [.pointer (some ⟨br, 0, none⟩)] w fun v w' => v = tup3 (dec l) ∧ Grew w w' := by
  refine go_in (n := 58) (rr_rd h) Try.func100 rfl rfl ?_
  repeat' (
    first
    | (
      first
      | (apply kp; iterate 2 exact rfl)
      | apply ja | apply jb | apply jg | apply jj | (apply je; exact rfl) | (apply jf; exact rfl) | apply jd | apply jh | apply ji | (apply jc; kernel_rfl) | apply jk | apply jl | apply jm | apply jn | apply jo | (apply jp; exact rfl) | apply jq | apply jr | apply js | apply jt | apply ju | apply jv | apply jw | apply kN | apply kM
      | (apply kf; iterate 2 exact rfl)
      | (apply ko; (· exact rfl); (· repeat (first | exact mH _ _ | apply mT)); iterate 2 exact rfl)
      | (apply ka; (· exact rfl); (· repeat (first | exact mH _ _ | apply mT)); iterate 2 exact rfl)
      | (apply kr; (· exact rfl); (· repeat (first | exact mH _ _ | apply mT)); iterate 3 exact rfl)
      | (apply ks; (· exact rfl); (· repeat (first | exact mH _ _ | apply mT)); iterate 2 exact rfl)
      | (apply kn; iterate 2 exact rfl)
      | (apply ke; iterate 2 exact rfl)
      | (apply kx; iterate 2 exact rfl)
      | (apply kc; iterate 2 exact rfl)
      | (apply kb; iterate 2 exact rfl)
      | (apply kg; iterate 2 exact rfl)
      | (apply kG; iterate 3 exact rfl)
      | (apply kB; (iterate 2 exact rfl); intro _)
      | (apply kA; exact rfl; intro _)
      | (apply kL; (iterate 3 exact rfl); (· repeat (first | exact BS.nil _ | (apply BS.int; exact rfl) | (apply BS.ptr; exact rfl) | (apply BS.slice; exact rfl) | (apply BS.agg; iterate 2 exact rfl))); intro _)
      | (apply kT; (iterate 2 exact rfl); (· repeat (first | exact sH _ _ _ | apply sT)); iterate 2 exact rfl)
      | (apply kS; (iterate 2 exact rfl); (· repeat (first | exact sH _ _ _ | apply sT)); exact rfl)
      | (apply kh; (iterate 2 exact rfl); (first | decide | omega); exact rfl)
      | (apply kl; (iterate 2 exact rfl); (first | decide | omega); exact rfl)
      )
    | ((first | (apply kR; (· exact rfl); (· exact rfl)) | (apply kQ; (· exact rfl))); all_goals (intro hc; try simp only [decide_eq_true_eq, decide_eq_false_iff_not, Bool.not_eq_true', Bool.not_eq_false', Bool.not_eq_true, Bool.not_eq_false, Bool.not_true, Bool.not_false, Int.not_lt, Int.not_le, List.cons.injEq, and_true, beq_iff_eq, beq_eq_false_iff_ne] at hc; try (exfalso; first | contradiction | omega)))
    )
  apply CW.loop [2, 3, 4, 5, 6, 7, 8, 9, 10, 11, 12, 13, 14, 15, 16, 17, 18, 19, 20, 21, 22, 23, 24, 25, 26, 27, 28, 29, 30, 31, 32, 33, 34, 35, 36, 37] (fun s : Nat × Nat => s.1 ≤ l.length ∧ s.1 ≤ 7 ∧ s.2 < 128 ^ s.1 ∧ dec l = decF (8 - s.1) s.1 s.2 (l.drop s.1))
    (fun s => [(5, Value.int .u64 (s.2 : Int)), (6, Value.int .i64 (s.1 : Int))]) (fun s => St w NoF [rdA (some ⟨br, 0, none⟩) [.slice a l.length c, .bool true], rdA a (bv l)]) (fun s => 8 - s.1)
  · exact fun w' hw' => ⟨(0, 0), ⟨by simp, by simp, by simp, rfl⟩, ⟨rfl, rfl, trivial⟩, hw'⟩
  rintro ⟨i, acc⟩ g ⟨hi, hi7, hacc, hd⟩
  simp only at hi hi7 hacc hd ⊢
  by_cases hlt : i < l.length
  · obtain ⟨ba, oa, rfl⟩ := h.2.1.form (fun e => by have := congrArg List.length e; simp at this; subst this; simp at hlt)
    have hne : ¬ ((i : Int) = (l.length : Int)) := by omega
    obtain ⟨hx0, hx1⟩ := hb _ (List.getElem_mem hlt)
    obtain ⟨x, hx⟩ : ∃ x : Nat, l[i] = (x : Int) := ⟨l[i].toNat, by omega⟩
    have hp := pow128_le (i := i) (by omega)
    have hab : acc < 72057594037927936 := by omega
    have hxm : x % 128 * 128 ^ i ≤ 127 * 72057594037927936 := Nat.mul_le_mul (by omega) hp
    have hval : orI .u64 (acc : Int) (IntKind.u64.wrap (IntKind.u64.wrap (andNotI .u8 l[i] 128) * 2 ^ (min (7 * (i : Int)).toNat IntKind.u64.bits))) = ((acc + x % 128 * 128 ^ i : Nat) : Int) := by
      rw [hx, andNot128 x (by omega), wrap_u64 (x := ((x % 128 : Nat) : Int)) (by omega) (by omega)]
      have e : min (7 * (i : Int)).toNat IntKind.u64.bits = 7 * i := by
        have : IntKind.u64.bits = 64 := rfl
        omega
      rw [e]
      have e2 : ((x % 128 : Nat) : Int) * 2 ^ (7 * i) = ((x % 128 * 2 ^ (7 * i) : Nat) : Int) := by simp
      rw [pow128] at hacc hxm ⊢
      rw [e2, wrap_u64 (by omega) (by omega), or_add hacc (by omega)]
    have hn : acc + x % 128 * 128 ^ i < 128 ^ (i + 1) := by
      have : x % 128 * 128 ^ i ≤ 127 * 128 ^ i := Nat.mul_le_mul_right _ (by omega)
      rw [Nat.pow_succ]; omega
    have hstep : dec l = if l[i] < 128 then (if (0 < i ∧ l[i] = 0) ∨ 9007199254740991 < acc + x % 128 * 128 ^ i then (0, 0, 4) else (acc + x % 128 * 128 ^ i, i + 1, 0)) else decF (7 - i) (i + 1) (acc + x % 128 * 128 ^ i) (l.drop (i + 1)) := by
      rw [hd, List.drop_eq_getElem_cons hlt, show 8 - i = (7 - i) + 1 by omega]
      have : l[i].toNat = x := by omega
      simp only [decF, this]
    generalize acc + x % 128 * 128 ^ i = nacc at hval hn hstep
    have hnb : nacc < 9223372036854775808 := by
      have : 128 ^ (i + 1) ≤ 72057594037927936 := pow128_le (by omega)
      omega
    repeat' (
      first
      | (
        first
        | (apply kp; iterate 2 exact rfl)
        | apply ja | apply jb | apply jg | apply jj | (apply je; exact rfl) | (apply jf; exact rfl) | apply jd | apply jh | apply ji | (apply jc; kernel_rfl) | apply jk | apply jl | apply jm | apply jn | apply jo | (apply jp; exact rfl) | apply jq | apply jr | apply js | apply jt | apply ju | apply jv | apply jw | apply kN | apply kM
        | (apply kf; iterate 2 exact rfl)
        | (apply ko; (· exact rfl); (· repeat (first | exact mH _ _ | apply mT)); iterate 2 exact rfl)
        | (apply ka; (· exact rfl); (· repeat (first | exact mH _ _ | apply mT)); iterate 2 exact rfl)
        | (apply kr; (· exact rfl); (· repeat (first | exact mH _ _ | apply mT)); iterate 3 exact rfl)
        | (apply ks; (· exact rfl); (· repeat (first | exact mH _ _ | apply mT)); iterate 2 exact rfl)
        | (apply kn; iterate 2 exact rfl)
        | (apply ke; iterate 2 exact rfl)
        | (apply kx; iterate 2 exact rfl)
        | (apply kc; iterate 2 exact rfl)
        | (apply kb; iterate 2 exact rfl)
        | (apply kg; iterate 2 exact rfl)
        | (apply kG; iterate 3 exact rfl)
        | (apply kB; (iterate 2 exact rfl); intro _)
        | (apply kA; exact rfl; intro _)
        | (apply kL; (iterate 3 exact rfl); (· repeat (first | exact BS.nil _ | (apply BS.int; exact rfl) | (apply BS.ptr; exact rfl) | (apply BS.slice; exact rfl) | (apply BS.agg; iterate 2 exact rfl))); intro _)
        | (apply kT; (iterate 2 exact rfl); (· repeat (first | exact sH _ _ _ | apply sT)); iterate 2 exact rfl)
        | (apply kS; (iterate 2 exact rfl); (· repeat (first | exact sH _ _ _ | apply sT)); exact rfl)
        | (apply kh; (iterate 2 exact rfl); (first | decide | omega); exact rfl)
        | (apply kl; (iterate 2 exact rfl); (first | decide | omega); exact rfl)
        )
      | (apply LR.ev; (· apply Ev.load_rd; (· exact rfl); (· repeat (first | exact mH _ _ | apply mT)); (· first | exact rfl | exact bv_at (i := i) (by omega) (by omega))); (· exact rfl))
      | (apply LR.ev; (· apply Ev.indexAddr; (· exact rfl); (· exact rfl); (· first | omega | (dsimp only; omega)); (· first | omega | (dsimp only; omega))); (· exact rfl))
      | (apply LR.ev; (· apply Ev.add; (· exact rfl); (· exact rfl); (· first | omega | (dsimp only; omega)); (· first | omega | (dsimp only; omega))); (· exact rfl))
      | (apply LR.ev; (· apply Ev.mul; (· exact rfl); (· exact rfl); (· first | omega | (dsimp only; omega)); (· first | omega | (dsimp only; omega))); (· exact rfl))
      | (apply LR.ev; (· apply Ev.sub; (· exact rfl); (· exact rfl); (· first | omega | (dsimp only; omega)); (· first | omega | (dsimp only; omega))); (· exact rfl))
      | ((first | (apply kR; (· exact rfl); (· exact rfl)) | (apply kQ; (· exact rfl))); all_goals (intro hc; try simp only [decide_eq_true_eq, decide_eq_false_iff_not, Bool.not_eq_true', Bool.not_eq_false', Bool.not_eq_true, Bool.not_eq_false, Bool.not_true, Bool.not_false, Int.not_lt, Int.not_le, List.cons.injEq, and_true, beq_iff_eq, beq_eq_false_iff_ne] at hc; try (exfalso; first | contradiction | omega)))
      )
    all_goals try simp only [hval] at hc
    any_goals (
      apply At.again (i + 1, nacc) ⟨by show i + 1 ≤ l.length; omega, by show i + 1 ≤ 7; omega, hn, by show dec l = decF (8 - (i + 1)) (i + 1) nacc (l.drop (i + 1)); rw [hstep, if_neg (by omega)]; congr 1; omega⟩
      · (repeat (first | exact Out.refl _ _ | exact Out.mix | (apply Out.upd; (· exact rfl)) | (apply Out.updL; (· exact rfl)) | (apply Out.mixs; (· exact rfl))))
      · refine ⟨congrArg (Value.int .u64) hval, rfl, trivial⟩
      · exact fun w' hw' => hw'
      · show 8 - (i + 1) < 8 - i; omega)
    all_goals (
      (apply ret3; (· exact rfl); intro w' hS)
      refine ⟨?_, hS.toKeep⟩
      rw [hstep]
      first
      | (rw [if_pos (by assumption), if_pos (by omega)]; rfl)
      | (rw [if_pos (by assumption), if_neg (by omega)]
         show Value.tuple #[.int .i64 (IntKind.i64.wrap (orI _ _ _)), _, _] = _
         rw [hval, wrap_i64 (by omega) (by omega)]; rfl)
      | (rw [if_neg (by omega)]
         obtain rfl : i = 7 := by omega
         rfl)
      | (clear hS; omega))
  · have hne : ((i : Int) = (l.length : Int)) := by omega
    have hd2 : dec l = (0, 0, 3) := by
      rw [hd, List.drop_eq_nil_of_le (by omega)]
      obtain ⟨q, hq⟩ : ∃ q, 8 - i = q + 1 := ⟨7 - i, by omega⟩
      rw [hq]; rfl
    repeat' (
      first
      | (
        first
        | (apply kp; iterate 2 exact rfl)
        | apply ja | apply jb | apply jg | apply jj | (apply je; exact rfl) | (apply jf; exact rfl) | apply jd | apply jh | apply ji | (apply jc; kernel_rfl) | apply jk | apply jl | apply jm | apply jn | apply jo | (apply jp; exact rfl) | apply jq | apply jr | apply js | apply jt | apply ju | apply jv | apply jw | apply kN | apply kM
        | (apply kf; iterate 2 exact rfl)
        | (apply ko; (· exact rfl); (· repeat (first | exact mH _ _ | apply mT)); iterate 2 exact rfl)
        | (apply ka; (· exact rfl); (· repeat (first | exact mH _ _ | apply mT)); iterate 2 exact rfl)
        | (apply kr; (· exact rfl); (· repeat (first | exact mH _ _ | apply mT)); iterate 3 exact rfl)
        | (apply ks; (· exact rfl); (· repeat (first | exact mH _ _ | apply mT)); iterate 2 exact rfl)
        | (apply kn; iterate 2 exact rfl)
        | (apply ke; iterate 2 exact rfl)
        | (apply kx; iterate 2 exact rfl)
        | (apply kc; iterate 2 exact rfl)
        | (apply kb; iterate 2 exact rfl)
        | (apply kg; iterate 2 exact rfl)
        | (apply kG; iterate 3 exact rfl)
        | (apply kB; (iterate 2 exact rfl); intro _)
        | (apply kA; exact rfl; intro _)
        | (apply kL; (iterate 3 exact rfl); (· repeat (first | exact BS.nil _ | (apply BS.int; exact rfl) | (apply BS.ptr; exact rfl) | (apply BS.slice; exact rfl) | (apply BS.agg; iterate 2 exact rfl))); intro _)
        | (apply kT; (iterate 2 exact rfl); (· repeat (first | exact sH _ _ _ | apply sT)); iterate 2 exact rfl)
        | (apply kS; (iterate 2 exact rfl); (· repeat (first | exact sH _ _ _ | apply sT)); exact rfl)
        | (apply kh; (iterate 2 exact rfl); (first | decide | omega); exact rfl)
        | (apply kl; (iterate 2 exact rfl); (first | decide | omega); exact rfl)
        )
      | (apply LR.ev; (· apply Ev.load_rd; (· exact rfl); (· repeat (first | exact mH _ _ | apply mT)); (· exact rfl)); (· exact rfl))
      | ((first | (apply kR; (· exact rfl); (· exact rfl)) | (apply kQ; (· exact rfl))); all_goals (intro hc; try simp only [decide_eq_true_eq, decide_eq_false_iff_not, Bool.not_eq_true', Bool.not_eq_false', Bool.not_eq_true, Bool.not_eq_false, Bool.not_true, Bool.not_false, Int.not_lt, Int.not_le, List.cons.injEq, and_true, beq_iff_eq, beq_eq_false_iff_ne] at hc; try (exfalso; first | contradiction | omega)))
      )
    (apply ret3; (· exact rfl); intro w' hS)
    exact ⟨by rw [hd2]; rfl, hS.toKeep⟩
end Go.Proofs.Ytomlgnncncjmaaa
