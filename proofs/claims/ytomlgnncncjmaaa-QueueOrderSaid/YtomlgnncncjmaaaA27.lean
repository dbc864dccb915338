/-
  Plain laws of the layer: numbers, messages and places as bytes and back.
-/
import Derived.Test.YtomlgnncncjmaaaA26
namespace Go.Proofs.Ytomlgnncncjmaaa
open Go.Hb
set_option linter.unusedSimpArgs false
set_option linter.unusedVariables false

theorem toNat_mod (y : Nat) (h : y < 128) : ((y : Int)).toNat % 128 = y := by simp; omega
theorem split128 (y i : Nat) : (y % 128) * 128 ^ i + (y / 128) * 128 ^ (i + 1) = y * 128 ^ i := by
  rw [Nat.pow_succ, ← Nat.mul_assoc, Nat.mul_right_comm, ← Nat.add_mul]
  congr 1
  omega
theorem decF_encF : ∀ (k m i acc y : Nat) (r : List Int), y < 128 ^ (k + 1) → k ≤ m → acc + y * 128 ^ i ≤ 9007199254740991 → (0 < i → 0 < y) →
    decF (k + 1) i acc (encF m y ++ r) = (acc + y * 128 ^ i, i + (encF m y).length, 0)
  | k, m, i, acc, y, r, hy, hm, hs, hp => by
    by_cases hlt : y < 128
    · rw [encF_small m y hlt]
      simp only [List.cons_append, List.nil_append, decF, List.length_singleton]
      rw [if_pos (by omega), toNat_mod y hlt, if_neg (by simp only [not_or, not_and]; exact ⟨fun h => by have := hp h; omega, by omega⟩)]
    · cases k with
      | zero => simp at hy; omega
      | succ k =>
        cases m with
        | zero => omega
        | succ m =>
          have hd : y / 128 < 128 ^ (k + 1) := by rw [Nat.pow_succ] at hy; omega
          have hsp := split128 y i
          have ih := decF_encF k m (i + 1) (acc + y % 128 * 128 ^ i) (y / 128) r hd (by omega) (by omega) (fun _ => by omega)
          rw [encF, if_neg hlt, List.cons_append]
          rw [decF]
          have e1 : (((y % 128 + 128 : Nat) : Int)).toNat % 128 = y % 128 := by rw [Int.toNat_natCast]; omega
          rw [if_neg (by omega), e1, ih]
          simp only [List.length_cons, Prod.mk.injEq, and_true]
          omega
theorem dec_enc (x : Nat) (hx : x ≤ 9007199254740991) (r : List Int) : dec (enc x ++ r) = (x, (enc x).length, 0) := by
  have h1 : (128 : Nat) ^ 8 = 72057594037927936 := by decide
  have := decF_encF 7 8 0 0 x r (by omega) (by omega) (by simpa using hx) (fun h => by omega)
  simpa [dec, enc] using this
theorem decF_canon : ∀ (k m i acc : Nat) (l : List Int), Byt l → k ≤ m + 1 → (decF k i acc l).2.2 = 0 →
    ∃ y r, (decF k i acc l).1 = acc + y * 128 ^ i ∧ (0 < i → 0 < y) ∧ l = encF m y ++ r ∧ (decF k i acc l).2.1 = i + (encF m y).length
  | 0, m, i, acc, l, hb, hm, h => by simp [decF] at h
  | k + 1, m, i, acc, [], hb, hm, h => by simp [decF] at h
  | k + 1, m, i, acc, x :: r, hb, hm, h => by
    have hx := hb x (List.mem_cons_self)
    rw [decF] at h ⊢
    by_cases hlt : x < 128
    · rw [if_pos hlt] at h ⊢
      by_cases hbad : (0 < i ∧ x = 0) ∨ 9007199254740991 < acc + x.toNat % 128 * 128 ^ i
      · rw [if_pos hbad] at h; cases h
      · rw [if_neg hbad]
        simp only [not_or, not_and] at hbad
        have e : x.toNat % 128 = x.toNat := by omega
        refine ⟨x.toNat, r, by rw [e], fun hi => by have := hbad.1 hi; omega, ?_, ?_⟩
        · rw [encF_small m _ (by omega)]; simp; omega
        · rw [encF_small m _ (by omega)]; rfl
    · rw [if_neg hlt] at h ⊢
      cases m with
      | zero =>
        have : k = 0 := by omega
        subst this
        simp [decF] at h
      | succ m =>
        obtain ⟨y, r', h1, h2, h3, h4⟩ := decF_canon k m (i + 1) (acc + x.toNat % 128 * 128 ^ i) r (fun b hb' => hb b (List.mem_cons_of_mem _ hb')) (by omega) h
        have hy := h2 (by omega)
        refine ⟨x.toNat % 128 + y * 128, r', ?_, fun _ => by omega, ?_, ?_⟩
        · rw [h1]
          have := split128 (x.toNat % 128 + y * 128) i
          rw [show (x.toNat % 128 + y * 128) % 128 = x.toNat % 128 by omega, show (x.toNat % 128 + y * 128) / 128 = y by omega] at this
          omega
        · rw [encF, if_neg (by omega), show (x.toNat % 128 + y * 128) % 128 = x.toNat % 128 by omega, show (x.toNat % 128 + y * 128) / 128 = y by omega, List.cons_append, ← h3]
          congr 1
          omega
        · rw [h4, encF, if_neg (by omega), show (x.toNat % 128 + y * 128) / 128 = y by omega]
          simp only [List.length_cons]; omega
theorem dec_canon {l : List Int} (hb : Byt l) (h : (dec l).2.2 = 0) : ∃ r, l = enc (dec l).1 ++ r ∧ (dec l).2.1 = (enc (dec l).1).length ∧ (dec l).1 ≤ 9007199254740991 := by
  obtain ⟨y, r, h1, _, h3, h4⟩ := decF_canon 8 8 0 0 l hb (by omega) h
  have e : (dec l).1 = y := by show (decF 8 0 0 l).1 = y; rw [h1]; simp
  have hbd := (decF_bound 8 0 0 l).2 h
  refine ⟨r, by rw [e]; exact h3, ?_, hbd.2⟩
  rw [e]
  show (decF 8 0 0 l).2.1 = _
  rw [h4]; simp [enc]

theorem decs_encs : ∀ (xs : List Int) (r : List Int), (∀ x ∈ xs, okN x) → decs xs.length (encs xs ++ r) = (xs, 0, r)
  | [], r, _ => by simp [decs, encs]
  | x :: xs, r, h => by
    have hx := h x List.mem_cons_self
    unfold okN at hx
    have he : encs (x :: xs) ++ r = enc x.toNat ++ (encs xs ++ r) := by simp [encs]
    have hd := dec_enc x.toNat (by omega) (encs xs ++ r)
    rw [he, List.length_cons, decs, hd, if_neg (by simp)]
    simp only [List.drop_left]
    rw [decs_encs xs r (fun y hy => h y (List.mem_cons_of_mem _ hy))]
    simp; omega
theorem decs_canon : ∀ (n : Nat) (l : List Int), Byt l → (decs n l).2.1 = 0 → l = encs (decs n l).1 ++ (decs n l).2.2
  | 0, l, _, _ => by simp [decs, encs]
  | n + 1, l, hb, h => by
    rw [decs] at h ⊢
    by_cases hd : (dec l).2.2 ≠ 0
    · rw [if_pos hd] at h; exact absurd h hd
    · rw [if_neg hd] at h ⊢
      obtain ⟨r, h1, h2, h3⟩ := dec_canon hb (by simpa using hd)
      have ih := decs_canon n (l.drop (dec l).2.1) (hb.drop _) h
      have hr : l.drop (dec l).2.1 = r := by rw [h2]; have hx := List.drop_left (l₁ := enc (dec l).1) (l₂ := r); rwa [← h1] at hx
      rw [hr] at ih ⊢
      simp only [encs, List.flatMap_cons, Int.toNat_natCast, List.append_assoc] at ih ⊢
      rw [← ih]; exact h1
theorem octs_enc {most : Int} {b r : List Int} (h1 : (b.length : Int) ≤ most) (h2 : b.length ≤ 9007199254740991) : octs most (enc b.length ++ b ++ r) = (b, 0, r) := by
  have hd := dec_enc b.length h2 (b ++ r)
  rw [List.append_assoc]
  rw [octs_ok (by rw [hd]) (by rw [hd]; exact h1) (by rw [hd]; simp; omega), hd]
  simp only [List.drop_left, List.take_left, Prod.mk.injEq, true_and]
  rw [← List.append_assoc, List.drop_append, List.length_append, List.drop_of_length_le (by simp)]
  simp
theorem octs_canon {most : Int} {l : List Int} (hb : Byt l) (h : (octs most l).2.1 = 0) : l = enc (octs most l).1.length ++ (octs most l).1 ++ (octs most l).2.2 ∧ ((octs most l).1.length : Int) ≤ most := by
  unfold octs at h ⊢
  by_cases h0 : (dec l).2.2 ≠ 0
  · rw [if_pos h0] at h; exact absurd h h0
  · rw [if_neg h0] at h ⊢
    by_cases h1 : most < ((dec l).1 : Int)
    · rw [if_pos h1] at h; cases h
    · rw [if_neg h1] at h ⊢
      by_cases h2 : ((l.length - (dec l).2.1 : Nat) : Int) < ((dec l).1 : Int)
      · rw [if_pos h2] at h; cases h
      · rw [if_neg h2]
        obtain ⟨r, h3, h4, h5⟩ := dec_canon hb (by simpa using h0)
        have hr : l.drop (dec l).2.1 = r := by rw [h4]; have hx := List.drop_left (l₁ := enc (dec l).1) (l₂ := r); rwa [← h3] at hx
        have hrl : l.length - (dec l).2.1 = r.length := by rw [← hr]; simp
        have hl : ((l.drop (dec l).2.1).take (dec l).1).length = (dec l).1 := by rw [hr]; simp; omega
        simp only [hl]
        refine ⟨?_, by omega⟩
        rw [← List.drop_drop, hr, List.append_assoc, List.take_append_drop]
        exact h3

/-! ### messages -/
theorem decs_append (a b : Nat) (l : List Int) (h : (decs a l).2.1 = 0) : decs (a + b) l = ((decs a l).1 ++ (decs b (decs a l).2.2).1, (decs b (decs a l).2.2).2) := by
  rw [decs_split, if_neg (by simpa using h)]
def nums8 (m : Msg) : List Int := [m.kind, m.origin, m.life, m.id, m.part, m.parts, m.groups, b2i m.safe]
def nums4 (m : Msg) : List Int := [m.stamp, m.rseq, m.rrep, m.kseq]
theorem msgNums_parts (m : Msg) : msgNums m = nums8 m ++ nums4 m := rfl
theorem msgOf_nums (m : Msg) : msgOf (nums8 m) (nums4 m) m.body = m := by
  obtain ⟨x1, x2, x3, x4, x5, x6, x7, x8, x9, x10, x11, x12, x13⟩ := m
  cases x8 <;> rfl
theorem unpackW_bytes {ck : Msg → Int} {m : Msg} {r : List Int} (hok : ∀ x ∈ msgNums m, okN x) (hl : m.body.length ≤ 160) :
    unpackW ck (bytesM m ++ r) = if 0 < r.length ∨ ck m ≠ 0 then (zeroMsg, 4) else (m, 0) := by
  have e : bytesM m ++ r = encs (nums8 m) ++ (encs (nums4 m) ++ (enc m.body.length ++ m.body ++ r)) := by
    simp only [bytesM, msgNums_parts, encs, List.flatMap_append, List.append_assoc]
  have hok2 : (∀ x ∈ nums8 m, okN x) ∧ ∀ x ∈ nums4 m, okN x := ⟨fun x hx => hok x (by rw [msgNums_parts]; exact List.mem_append_left _ hx), fun x hx => hok x (by rw [msgNums_parts]; exact List.mem_append_right _ hx)⟩
  have h8 : decs 8 (bytesM m ++ r) = (nums8 m, 0, encs (nums4 m) ++ (enc m.body.length ++ m.body ++ r)) := by rw [e]; exact decs_encs (nums8 m) _ hok2.1
  have h4 : decs 4 (encs (nums4 m) ++ (enc m.body.length ++ m.body ++ r)) = (nums4 m, 0, enc m.body.length ++ m.body ++ r) := decs_encs (nums4 m) _ hok2.2
  have ho : octs 160 (enc m.body.length ++ m.body ++ r) = (m.body, 0, r) := octs_enc (by omega) (by omega)
  have h7 : ¬ 1 < (nums8 m).getD 7 0 := by show ¬ 1 < b2i m.safe; unfold b2i; split <;> omega
  unfold unpackW
  rw [h8]
  simp only
  rw [h4]
  simp only
  rw [ho]
  simp only [msgOf_nums, h7, if_false, ne_eq, not_true_eq_false]
theorem unpack_bytes {m : Msg} (h : check m = 0) : unpack (bytesM m) = (m, 0) := by
  have := unpackW_bytes (ck := check) (r := []) (msgNums_ok h) (check_ok h).1
  rw [List.append_nil] at this
  rw [unpack_eq, this, if_neg (by simp [h])]
theorem unpack_more {m : Msg} (h : check m = 0) (x : Int) : unpack (bytesM m ++ [x]) = (zeroMsg, 4) := by
  rw [unpack_eq, unpackW_bytes (ck := check) (r := [x]) (msgNums_ok h) (check_ok h).1, if_pos (by simp)]
theorem unpack_canon {l : List Int} (hb : Byt l) (h : (unpack l).2 = 0) : check (unpack l).1 = 0 ∧ bytesM (unpack l).1 = l := by
  rw [unpack_eq] at h ⊢
  unfold unpackW at h ⊢
  by_cases h8 : (decs 8 l).2.1 ≠ 0
  · rw [if_pos h8] at h; exact absurd h h8
  rw [if_neg h8] at h ⊢
  by_cases h7 : 1 < (decs 8 l).1.getD 7 0
  · rw [if_pos h7] at h; cases h
  rw [if_neg h7] at h ⊢
  by_cases h4 : (decs 4 (decs 8 l).2.2).2.1 ≠ 0
  · rw [if_pos h4] at h; exact absurd h h4
  rw [if_neg h4] at h ⊢
  by_cases ho : (octs 160 (decs 4 (decs 8 l).2.2).2.2).2.1 ≠ 0
  · rw [if_pos ho] at h; exact absurd h ho
  rw [if_neg ho] at h ⊢
  by_cases hc : 0 < (octs 160 (decs 4 (decs 8 l).2.2).2.2).2.2.length ∨ check (msgOf (decs 8 l).1 (decs 4 (decs 8 l).2.2).1 (octs 160 (decs 4 (decs 8 l).2.2).2.2).1) ≠ 0
  · rw [if_pos hc] at h; cases h
  rw [if_neg hc]
  simp only [not_or, Nat.not_lt] at hc
  simp only [ne_eq, Decidable.not_not] at h8 h4 ho hc
  have c8 := decs_canon 8 l hb h8
  have c4 := decs_canon 4 _ (decs_rest_byt 8 hb) h4
  have co := (octs_canon (decs_rest_byt 4 (decs_rest_byt 8 hb)) ho).1
  have l8 := (decs_len 8 l).2 h8
  have l4 := (decs_len 4 _).2 h4
  have b8 := decs_bound 8 l
  refine ⟨hc.2, ?_⟩
  generalize (octs 160 (decs 4 (decs 8 l).2.2).2.2).1 = body at *
  have hnil : (octs 160 (decs 4 (decs 8 l).2.2).2.2).2.2 = [] := List.eq_nil_of_length_eq_zero (by omega)
  rw [hnil, List.append_nil] at co
  rw [co] at c4
  rw [c4] at c8
  generalize (decs 4 (decs 8 l).2.2).1 = x4 at *
  generalize (decs 8 l).1 = x8 at *
  obtain ⟨w0, w1, w2, w3, rfl⟩ := four l4
  obtain ⟨v0, v1, v2, v3, v4, v5, v6, v7, rfl⟩ : ∃ v0 v1 v2 v3 v4 v5 v6 v7, x8 = [v0, v1, v2, v3, v4, v5, v6, v7] := by
    match x8, l8 with
    | [a, b, c, d, e, f, g, h], _ => exact ⟨a, b, c, d, e, f, g, h, rfl⟩
  have h7' : v7 ≤ 1 := by simpa using h7
  have h70 : 0 ≤ v7 := (b8 v7 (by simp)).1
  have e7 : b2i (decide (v7 = 1)) = v7 := by
    unfold b2i
    have : v7 = 0 ∨ v7 = 1 := by omega
    rcases this with rfl | rfl <;> simp
  rw [c8]
  show encs (nums8 (msgOf [v0, v1, v2, v3, v4, v5, v6, v7] [w0, w1, w2, w3] body) ++ nums4 (msgOf [v0, v1, v2, v3, v4, v5, v6, v7] [w0, w1, w2, w3] body)) ++ enc body.length ++ body = _
  have e8 : nums8 (msgOf [v0, v1, v2, v3, v4, v5, v6, v7] [w0, w1, w2, w3] body) = [v0, v1, v2, v3, v4, v5, v6, v7] := by
    show [v0, v1, v2, v3, v4, v5, v6, b2i (decide (v7 = 1))] = _
    rw [e7]
  rw [e8]
  simp only [encs, List.flatMap_append, List.append_assoc]
  rfl

/-! ### places -/
theorem plcNums_of {v : List Int} (h : v.length = 4) : plcNums (plcOf v) = v := by
  obtain ⟨a, b, c, d, rfl⟩ := four h
  rfl
theorem plcOf_nums (p : Plc) : plcOf (plcNums p) = p := rfl
theorem rows_enc : ∀ (ps : List Plc) (r : List Int), (∀ p ∈ ps, ∀ x ∈ plcNums p, okN x) → rows ps.length ((ps.flatMap fun p => encs (plcNums p)) ++ r) = (ps, 0, r)
  | [], r, _ => by simp [rows]
  | p :: ps, r, h => by
    have hd := decs_encs (plcNums p) ((ps.flatMap fun p => encs (plcNums p)) ++ r) (h p List.mem_cons_self)
    have h4 : (plcNums p).length = 4 := rfl
    rw [h4] at hd
    rw [List.length_cons, rows, List.flatMap_cons, List.append_assoc, hd, if_neg (by simp)]
    simp only
    rw [rows_enc ps r (fun q hq => h q (List.mem_cons_of_mem _ hq)), plcOf_nums]
theorem rows_canon : ∀ (n : Nat) (l : List Int), Byt l → (rows n l).2.1 = 0 → l = ((rows n l).1.flatMap fun p => encs (plcNums p)) ++ (rows n l).2.2 ∧ (rows n l).1.length = n
  | 0, l, _, _ => by simp [rows]
  | n + 1, l, hb, h => by
    rw [rows] at h ⊢
    by_cases hd : (decs 4 l).2.1 ≠ 0
    · rw [if_pos hd] at h; exact absurd h hd
    · rw [if_neg hd] at h ⊢
      have ih := rows_canon n (decs 4 l).2.2 (decs_rest_byt 4 hb) h
      have hc := decs_canon 4 l hb (by simpa using hd)
      have hl4 := (decs_len 4 l).2 (by simpa using hd)
      simp only [List.flatMap_cons, plcNums_of hl4, List.append_assoc, List.length_cons, ih.2, and_true]
      rw [← ih.1]; exact hc
theorem charts_ok {ps : List Plc} (h : (charts ps).2 = 0) : ps.length ≤ 4 ∧ (∀ p ∈ ps, plcB p = true) ∧ charts ps = (plcsBytes ps, 0) := by
  unfold charts at h ⊢
  by_cases h4 : 4 < ps.length
  · rw [if_pos h4] at h; cases h
  rw [if_neg h4] at h ⊢
  by_cases hb : (ps.any fun p => !plcB p) = true
  · rw [if_pos hb] at h; cases h
  rw [if_neg hb] at h ⊢
  by_cases hi : incr (-1) ps = false
  · rw [if_pos hi] at h; cases h
  rw [if_neg hi]
  exact ⟨by omega, any_false (by simpa using hb), rfl⟩
theorem places_enc {ps : List Plc} (r : List Int) (h : (charts ps).2 = 0) : places (plcsBytes ps ++ r) = if 0 < r.length then ([], 4) else (ps, 0) := by
  obtain ⟨h4, hb, hc⟩ := charts_ok h
  have hd := dec_enc ps.length (by omega) ((ps.flatMap fun p => encs (plcNums p)) ++ r)
  have hr := rows_enc ps r (fun p hp => plcNums_ok (hb p hp))
  unfold places plcsBytes
  rw [List.append_assoc, hd]
  simp only [ne_eq, not_true_eq_false, if_false, List.drop_left]
  rw [if_neg (by omega), hr]
  simp only [not_true_eq_false, if_false, h, false_or]
theorem places_canon {l : List Int} (hb : Byt l) (h : (places l).2 = 0) : charts (places l).1 = (l, 0) := by
  unfold places at h ⊢
  by_cases h0 : (dec l).2.2 ≠ 0
  · rw [if_pos h0] at h; exact absurd h h0
  rw [if_neg h0] at h ⊢
  by_cases h1 : 4 < (dec l).1
  · rw [if_pos h1] at h; cases h
  rw [if_neg h1] at h ⊢
  by_cases h2 : (rows (dec l).1 (l.drop (dec l).2.1)).2.1 ≠ 0
  · rw [if_pos h2] at h; exact absurd h h2
  rw [if_neg h2] at h ⊢
  by_cases h3 : (charts (rows (dec l).1 (l.drop (dec l).2.1)).1).2 ≠ 0 ∨ 0 < (rows (dec l).1 (l.drop (dec l).2.1)).2.2.length
  · rw [if_pos h3] at h; cases h
  rw [if_neg h3]
  simp only [not_or, Nat.not_lt, ne_eq, Decidable.not_not] at h0 h2 h3
  obtain ⟨hc4, hcb, hc⟩ := charts_ok h3.1
  obtain ⟨r, d1, d2, d3⟩ := dec_canon hb h0
  have hr : l.drop (dec l).2.1 = r := by rw [d2]; have hx := List.drop_left (l₁ := enc (dec l).1) (l₂ := r); rwa [← d1] at hx
  have rc := rows_canon (dec l).1 (l.drop (dec l).2.1) (hb.drop _) h2
  have hnil : (rows (dec l).1 (l.drop (dec l).2.1)).2.2 = [] := List.eq_nil_of_length_eq_zero (by omega)
  rw [hnil, List.append_nil] at rc
  simp only
  rw [hc]
  congr 1
  unfold plcsBytes
  rw [rc.2, ← rc.1, hr]
  exact d1.symm
end Go.Proofs.Ytomlgnncncjmaaa
