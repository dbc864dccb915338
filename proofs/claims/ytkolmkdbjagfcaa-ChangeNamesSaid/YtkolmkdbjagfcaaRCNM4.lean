/-
  Numbers without those of configurations; who is kin; how far data were delivered: the beginning.
-/
import Derived.Test.YtkolmkdbjagfcaaRCNM3
import Derived.Lib.SlKeysI

namespace Go.Proofs.Ytkolmkdbjagfcaa
open Go.Hb Go.Lib
set_option linter.unusedSimpArgs false
set_option linter.unusedVariables false

theorem comp_asc (d : Array Int) (n : Nat) (hs : ∀ i j, i ≤ j → j < n → d[i]! ≤ d[j]!) : ∀ m, m ≤ n → (compactUpTo d m).Pairwise (· < ·) ∧ ∀ x, x ∈ compactUpTo d m ↔ ∃ j, j < m ∧ d[j]! = x
  | 0, _ => ⟨by simp [compactUpTo], fun x => by simp [compactUpTo]⟩
  | m + 1, hm => by
    obtain ⟨h1, h2⟩ := comp_asc d n hs m (by omega)
    rw [compactUpTo_succ]
    by_cases hk : keeps d m = true
    · rw [if_pos hk]
      refine ⟨List.pairwise_append.2 ⟨h1, List.pairwise_singleton _ _, fun x hx y hy => ?_⟩, fun x => ?_⟩
      · obtain ⟨j, hj, rfl⟩ := (h2 x).1 hx
        simp only [List.mem_singleton] at hy
        subst hy
        simp only [keeps, decide_eq_true_eq] at hk
        have a1 := hs j (m - 1) (by omega) (by omega)
        have a2 := hs (m - 1) m (by omega) (by omega)
        have : d[m]! ≠ d[m - 1]! := by rcases hk with h0 | h0; omega; exact h0
        omega
      · rw [List.mem_append, h2, List.mem_singleton]
        constructor
        · rintro (⟨j, hj, e⟩ | e)
          · exact ⟨j, by omega, e⟩
          · exact ⟨m, by omega, e.symm⟩
        · rintro ⟨j, hj, e⟩
          by_cases hjm : j = m
          · subst hjm; exact .inr e.symm
          · exact .inl ⟨j, by omega, e⟩
    · rw [if_neg hk, List.append_nil]
      refine ⟨h1, fun x => ?_⟩
      rw [h2]
      constructor
      · rintro ⟨j, hj, e⟩
        exact ⟨j, by omega, e⟩
      · rintro ⟨j, hj, e⟩
        by_cases hjm : j = m
        · subst hjm
          simp only [keeps, decide_eq_true_eq, not_or, Decidable.not_not] at hk
          exact ⟨j - 1, by omega, by rw [← hk.2]; exact e⟩
        · exact ⟨j, by omega, e⟩
theorem sortI_asc (l : List Int) : ∀ i j, i ≤ j → j < (sortI l).length → (sortI l).toArray[i]! ≤ (sortI l).toArray[j]! := by
  intro i j hij hj
  by_cases e : i = j
  · subst e; exact Int.le_refl _
  have hp : (sortI l).Pairwise (fun x y => decide (x ≤ y) = true) := List.pairwise_mergeSort (fun a b c h1 h2 => by simp at *; omega) (fun a b => by simp; omega) l
  have := List.pairwise_iff_getElem.1 hp i j (by omega) hj (by omega)
  simp only [decide_eq_true_eq] at this
  rw [getElem!_pos _ i (by simpa using (by omega : i < (sortI l).length)), getElem!_pos _ j (by simpa using hj)]
  simpa using this
theorem comp_sort_asc (l : List Int) : (Lib.compact (sortI l)).Pairwise (· < ·) :=
  (comp_asc (sortI l).toArray (sortI l).length (sortI_asc l) _ (Nat.le_refl _)).1
theorem comp_sort_mem (l : List Int) (x : Int) : x ∈ Lib.compact (sortI l) ↔ x ∈ l := by
  have h := (comp_asc (sortI l).toArray (sortI l).length (sortI_asc l) _ (Nat.le_refl _)).2 x
  refine h.trans ?_
  have hm : x ∈ sortI l ↔ x ∈ l := (List.mergeSort_perm l _).mem_iff
  rw [← hm, List.mem_iff_getElem]
  constructor
  · rintro ⟨j, hj, e⟩
    refine ⟨j, hj, ?_⟩
    rw [getElem!_pos _ j (by simpa using hj)] at e
    simpa using e
  · rintro ⟨j, hj, e⟩
    refine ⟨j, hj, ?_⟩
    rw [getElem!_pos _ j (by simpa using hj)]
    simpa using e
theorem asc_ext : ∀ {l r : List Int}, l.Pairwise (· < ·) → r.Pairwise (· < ·) → (∀ x, x ∈ l ↔ x ∈ r) → l = r
  | [], [], _, _, _ => rfl
  | [], b :: r, _, _, h => by have := (h b).2 (by simp); simp at this
  | a :: l, [], _, _, h => by have := (h a).1 (by simp); simp at this
  | a :: l, b :: r, hl, hr, h => by
    rw [List.pairwise_cons] at hl hr
    have e : a = b := by
      have h1 := (h a).1 (by simp)
      have h2 := (h b).2 (by simp)
      rcases List.mem_cons.1 h1 with h1 | h1
      · exact h1
      rcases List.mem_cons.1 h2 with h2 | h2
      · exact h2.symm
      have := hr.1 a h1
      have := hl.1 b h2
      omega
    subst e
    congr 1
    refine asc_ext hl.2 hr.2 fun x => ⟨fun hx => ?_, fun hx => ?_⟩
    · rcases List.mem_cons.1 ((h x).1 (by simp [hx])) with e | e
      · subst e; have := hl.1 x hx; omega
      · exact e
    · rcases List.mem_cons.1 ((h x).2 (by simp [hx])) with e | e
      · subst e; have := hr.1 x hx; omega
      · exact e
theorem comp_sort_self {l : List Int} (h : l.Pairwise (· < ·)) : Lib.compact (sortI l) = l := asc_ext (comp_sort_asc l) h (comp_sort_mem l)
theorem askB_iff (q : Int) : ∀ (l : List Int) (z : Int), askB q z l = true ↔ l.Pairwise (· < ·) ∧ ∀ x ∈ l, z + 1 ≤ x ∧ x ≤ q
  | [], z => by simp [askB]
  | y :: l, z => by
    rw [askB, Bool.and_eq_true, askB_iff q l y, List.pairwise_cons]
    unfold withinB
    simp only [Bool.and_eq_true, decide_eq_true_eq]
    constructor
    · rintro ⟨⟨h1, h2⟩, h3, h4⟩
      refine ⟨⟨fun x hx => by have := h4 x hx; omega, h3⟩, fun x hx => ?_⟩
      rcases List.mem_cons.1 hx with rfl | hx
      · exact ⟨h1, h2⟩
      · have := h4 x hx; omega
    · rintro ⟨⟨h1, h2⟩, h3⟩
      have := h3 y (by simp)
      exact ⟨by omega, h2, fun x hx => ⟨by have := h1 x hx; omega, (h3 x (by simp [hx])).2⟩⟩
theorem tokB_ask {t : Tk} (h : tokB t = true) : t.ask.Pairwise (· < ·) ∧ (∀ x ∈ t.ask, 1 ≤ x ∧ x ≤ t.seq) ∧ t.ask.length ≤ 16 := by
  unfold tokB at h
  rw [Bool.and_eq_true, askB_iff] at h
  have h1 := h.1
  unfold Tk.headB at h1
  simp only [Bool.and_eq_true, decide_eq_true_eq] at h1
  exact ⟨h.2.1, fun x hx => by have := h.2.2 x hx; omega, h1.2⟩
theorem askV_nil {t : Tk} (h : tokB t = true) : askV t [] = t.ask := by
  obtain ⟨h1, _, h3⟩ := tokB_ask h
  unfold askV gapsQ
  rw [List.filter_nil, List.append_nil, comp_sort_self h1, List.take_of_length_le h3]
/-- What is asked for: the first sixteen of the strictly rising list of what was asked for and what is lacked. -/
theorem askV_asc (t : Tk) (g : List Int) : (askV t g).Pairwise (· < ·) := (comp_sort_asc _).sublist (List.take_sublist _ _)
theorem askV_mem {t : Tk} {g : List Int} {x : Int} (h : x ∈ askV t g) : x ∈ t.ask ∨ (x ∈ g ∧ withinB x 1 t.seq = true) := by
  have h1 := (comp_sort_mem _ x).1 (List.mem_of_mem_take h)
  rcases List.mem_append.1 h1 with h1 | h1
  · exact .inl h1
  · exact .inr (by simpa [gapsQ] using h1)
theorem askV_len (t : Tk) (g : List Int) : (askV t g).length ≤ 16 := by unfold askV; rw [List.length_take]; omega
theorem askV_all {t : Tk} {g : List Int} {x : Int} (h : x ∈ g) (hw : withinB x 1 t.seq = true) (hl : (askV t g).length < 16) : x ∈ askV t g := by
  unfold askV at hl ⊢
  rw [List.length_take] at hl
  rw [List.take_of_length_le (by omega)]
  exact (comp_sort_mem _ x).2 (List.mem_append.2 (.inr (by simp [gapsQ, h, hw])))
theorem nodup_le : ∀ {l r : List Int}, l.Pairwise (· < ·) → (∀ x ∈ l, x ∈ r) → l.length ≤ r.length
  | [], _, _, _ => by simp
  | a :: l, r, hl, h => by
    rw [List.pairwise_cons] at hl
    have := nodup_le (l := l) (r := r.erase a) hl.2 (fun x hx => (List.mem_erase_of_ne (by have := hl.1 x hx; omega)).2 (h x (by simp [hx])))
    rw [List.length_erase_of_mem (h a (by simp))] at this
    have h0 : 0 < r.length := List.length_pos_of_mem (h a (by simp))
    simp only [List.length_cons]
    omega
theorem askV_ge {t : Tk} (g : List Int) (h : tokB t = true) : t.ask.length ≤ (askV t g).length := by
  obtain ⟨h1, _, h3⟩ := tokB_ask h
  unfold askV
  rw [List.length_take]
  have := nodup_le (r := Lib.compact (sortI (t.ask ++ gapsQ t.seq g))) h1 (fun x hx => (comp_sort_mem _ x).2 (by simp [hx]))
  omega
/-- A token that was one is one behind a visit. -/
theorem tokB_visit {t : Tk} {node aru : Int} {g : List Int} (h : mayV t node aru = true) : tokB (visitT t node aru g) = true ∧ (visitT t node aru g).hop = t.hop + 1 := by
  unfold visitT
  rw [if_pos h]
  unfold mayV at h
  simp only [Bool.and_eq_true, Bool.not_eq_true', decide_eq_false_iff_not, decide_eq_true_eq] at h
  obtain ⟨⟨⟨hb, hh⟩, hn⟩, ha⟩ := h
  refine ⟨?_, rfl⟩
  have hask := tokB_ask hb
  have hb' := hb
  unfold tokB Tk.headB withinB at hb'
  simp only [Bool.and_eq_true, decide_eq_true_eq] at hb'
  unfold withinB at hn
  simp only [Bool.and_eq_true, decide_eq_true_eq] at hn
  unfold tokB
  rw [Bool.and_eq_true, askB_iff]
  refine ⟨?_, askV_asc t g, fun x hx => ?_⟩
  · unfold Tk.headB withinB
    simp only [Bool.and_eq_true, decide_eq_true_eq]
    have hl := askV_len t g
    have h2 : 0 ≤ (aruV t node aru).1 ∧ (aruV t node aru).1 ≤ t.seq ∧ 0 ≤ (aruV t node aru).2 ∧ (aruV t node aru).2 ≤ 8 := by
      unfold aruV
      split
      · dsimp only
        refine ⟨by split <;> omega, by split <;> omega, by split <;> omega, by split <;> omega⟩
      · dsimp only; omega
    refine ⟨⟨⟨⟨⟨⟨⟨hb'.1.1.1.1.1.1.1.1, ?_⟩, ?_⟩, ?_⟩, ?_⟩, ?_⟩, ?_⟩, ?_⟩ <;> first | omega | exact ⟨by omega, by omega⟩
  · rcases askV_mem hx with h1 | ⟨_, h1⟩
    · have := hask.2.1 x h1; exact ⟨by omega, this.2⟩
    · unfold withinB at h1
      simp only [Bool.and_eq_true, decide_eq_true_eq] at h1
      exact ⟨by omega, h1.2⟩
end Go.Proofs.Ytkolmkdbjagfcaa

namespace Go.Proofs.Ytkolmkdbjagfcaa
open Go.Hb
attribute [local irreducible] LR CW At Ev thn blk finK noG again CallsTo
set_option linter.unusedSimpArgs false
set_option linter.unusedVariables false
set_option maxRecDepth 100000

def usualT : Tk := ⟨4, 1, 1, 9, 5, 3, 20, 0, []⟩
theorem new_usual : newTk 4 1 20 = (⟨4, 1, 1, 0, 0, 0, 20, 0, []⟩, 0) := by decide +kernel
theorem may_u (node aru : Int) (h1 : withinB node 1 8 = true) (h2 : 0 ≤ aru) : mayV usualT node aru = true := by
  have hb : tokB usualT = true := by decide +kernel
  have hh : ¬usualT.hop = 9007199254740991 := by decide
  unfold mayV
  rw [hb, h1]
  simp [h2, hh]
theorem vis_a : visitT usualT 2 4 [5, 7] = ⟨4, 1, 2, 9, 4, 2, 20, 0, [5, 7]⟩ := by
  unfold visitT
  rw [if_pos (may_u _ _ (by decide) (by decide))]
  have e : askV usualT [5, 7] = [5, 7] := by
    have e1 : usualT.ask ++ gapsQ usualT.seq [5, 7] = [5, 7] := by decide +kernel
    unfold askV
    rw [e1, comp_sort_self (by decide)]
    rfl
  rw [e]
  rfl
theorem vis_b : visitT usualT 3 9 [] = ⟨4, 1, 2, 9, 9, 0, 20, 0, []⟩ := by
  unfold visitT
  rw [if_pos (may_u _ _ (by decide) (by decide)), askV_nil (by decide +kernel)]
  rfl
theorem not_take {l : List Int} {n : Int} {i : Nat} (hlt : i < l.length) (heq : n ∉ l.take i) (h : ¬l[i] = n) : n ∉ l.take (i + 1) := by
  rw [List.take_add_one, List.getElem?_eq_getElem hlt, Option.toList_some, List.mem_append, List.mem_singleton]
  rintro (h1 | h1)
  · exact heq h1
  · exact h h1.symm
end Go.Proofs.Ytkolmkdbjagfcaa

namespace Go.Proofs.Ytkolmkdbjagfcaa
open Go.Hb Go.Lib
set_option linter.unusedSimpArgs false
set_option linter.unusedVariables false

def gd (l : List Int) (k : Nat) : Int := l.getD k 0
theorem gd_set {l : List Int} {k : Nat} (x : Int) (j : Nat) (h : k < l.length) : gd (l.set k x) j = if j = k then x else gd l j := by
  unfold gd
  rw [List.getD_eq_getElem?_getD, List.getD_eq_getElem?_getD, List.getElem?_set]
  by_cases e : k = j
  · subst e; simp [h]
  · have : ¬j = k := fun h => e h.symm
    simp [e, this]
theorem gd_get {l : List Int} {k : Nat} (h : k < l.length) : (iv l)[k]? = some (.int .i64 (gd l k)) := by
  unfold gd iv
  simp [h]
theorem iv_set (l : List Int) (k : Nat) (x : Int) : (iv l).set k (.int .i64 x) = iv (l.set k x) := by
  unfold iv; rw [List.map_set]
/-- Node j was visited since node k was, where node c is next. -/
def Vs (k j c : Nat) : Prop := if k < c then k ≤ j ∧ j < c else k ≤ j ∨ j < c
structure SInv (n i : Nat) (al ll sl : List Int) (t : Tk) : Prop where
  n1 : 1 ≤ n
  n8 : n ≤ 8
  la : al.length = 8
  lll : ll.length = 8
  ls : sl.length = 8
  tk : tokB t = true
  hop : t.hop = (i : Int) + 1
  ask : t.ask = []
  seqb : t.seq ≤ 3 * (i : Int)
  ab : ∀ j, j < n → 0 ≤ gd al j ∧ gd al j ≤ t.seq
  sb : ∀ k, k < n → ∀ j, j < n → gd sl k ≤ gd al j
  lb : ∀ k, k < n → gd ll k ≤ t.seq
  pk : ∀ k, k < n → (∀ j, j < n → Vs k j (i % n) → gd ll k ≤ gd al j ∨ t.aru ≤ gd al j) ∧ (gd ll k ≤ t.aru ∨ ∃ m, m < n ∧ t.low = (m : Int) + 1 ∧ Vs k m (i % n))
theorem next_mod {n : Nat} (i : Nat) (h : 1 ≤ n) : (i + 1) % n = if i % n + 1 = n then 0 else i % n + 1 := by
  have h1 := Nat.mod_lt i (show 0 < n by omega)
  split
  · rename_i e
    rw [Nat.add_mod, ← Nat.mod_eq_of_lt h1]
    by_cases h2 : n = 1
    · subst h2; simp [Nat.mod_one]
    · rw [Nat.mod_eq_of_lt (show 1 < n by omega), Nat.mod_eq_of_lt h1, e, Nat.mod_self]
  · rename_i e
    by_cases h2 : n = 1
    · subst h2; simp [Nat.mod_one] at e
    · rw [Nat.add_mod, Nat.mod_eq_of_lt (show 1 < n by omega), Nat.mod_eq_of_lt (by omega)]
def al1 (n i : Nat) (al : List Int) (t : Tk) (y1 : Int) : List Int := al.set (i % n) (if gd al (i % n) + y1 < t.seq then gd al (i % n) + y1 else t.seq)
def sl1 (n i : Nat) (ll sl : List Int) (t : Tk) : List Int := sl.set (i % n) (max (gd sl (i % n)) (min (gd ll (i % n)) t.aru))
def tk1 (t : Tk) (y2 : Int) : Tk := { t with seq := t.seq + y2 }
def al2 (n i : Nat) (al : List Int) (t : Tk) (y1 y2 : Int) : List Int := if gd (al1 n i al t y1) (i % n) = t.seq then (al1 n i al t y1).set (i % n) (t.seq + y2) else al1 n i al t y1
def tk2 (n i : Nat) (al : List Int) (t : Tk) (y1 y2 : Int) : Tk := visitT (tk1 t y2) (1 + ((i % n : Nat) : Int)) (gd (al2 n i al t y1 y2) (i % n)) []
def ll1 (n i : Nat) (al ll : List Int) (t : Tk) (y1 y2 : Int) : List Int := ll.set (i % n) (tk2 n i al t y1 y2).aru
def al3 (n i : Nat) (al : List Int) (t : Tk) (y1 y2 y3 : Int) (jj : Nat) : List Int := (al2 n i al t y1 y2).set jj (if gd (al2 n i al t y1 y2) jj + y3 < (tk2 n i al t y1 y2).seq then gd (al2 n i al t y1 y2) jj + y3 else (tk2 n i al t y1 y2).seq)
theorem tok1 {t : Tk} {y2 : Int} (h : tokB t = true) (ha : t.ask = []) (h2 : 0 ≤ y2) (hb : t.seq + y2 ≤ 9007199254740991) : tokB (tk1 t y2) = true := by
  unfold tokB Tk.headB withinB at h ⊢
  simp only [Bool.and_eq_true, decide_eq_true_eq] at h ⊢
  have e : (tk1 t y2).ask = [] := ha
  refine ⟨⟨⟨⟨⟨⟨⟨⟨h.1.1.1.1.1.1.1.1, h.1.1.1.1.1.1.1.2⟩, ?_⟩, ?_⟩, h.1.1.1.1.2⟩, h.1.1.1.2⟩, h.1.1.2⟩, h.1.2⟩, ?_⟩
  · show 0 ≤ t.seq + y2 ∧ t.seq + y2 ≤ _; omega
  · show 0 ≤ t.aru ∧ t.aru ≤ t.seq + y2; omega
  · rw [e]; rfl
section
variable {n i : Nat} {al ll sl : List Int} {t : Tk} {y1 y2 y3 : Int} {jj : Nat}
theorem SInv.kn (h : SInv n i al ll sl t) : i % n < n := Nat.mod_lt _ h.n1
theorem SInv.k8 (h : SInv n i al ll sl t) : i % n < 8 := Nat.lt_of_lt_of_le h.kn h.n8
theorem al1_ge (h : SInv n i al ll sl t) (hy : 0 ≤ y1) (j : Nat) (hj : j < n) : gd al j ≤ gd (al1 n i al t y1) j ∧ gd (al1 n i al t y1) j ≤ t.seq := by
  unfold al1
  rw [gd_set _ _ (by rw [h.la]; exact h.k8)]
  have a1 := h.ab j hj
  split
  · rename_i e; subst e
    split <;> omega
  · omega
theorem al1_len (h : SInv n i al ll sl t) : (al1 n i al t y1).length = 8 := by unfold al1; rw [List.length_set, h.la]
theorem safe_ok (h : SInv n i al ll sl t) (hy : 0 ≤ y1) (j : Nat) (hj : j < n) : gd (sl1 n i ll sl t) (i % n) ≤ gd (al1 n i al t y1) j := by
  unfold sl1
  rw [gd_set _ _ (by rw [h.ls]; exact h.k8), if_pos rfl]
  have a1 := al1_ge h hy j hj
  have a2 := h.sb (i % n) h.kn j hj
  have a3 := (h.pk (i % n) h.kn).1 j hj (by unfold Vs; rw [if_neg (by omega)]; omega)
  omega
theorem al2_len (h : SInv n i al ll sl t) : (al2 n i al t y1 y2).length = 8 := by
  unfold al2; split
  · rw [List.length_set, al1_len h]
  · exact al1_len h
theorem al2_ge (h : SInv n i al ll sl t) (hy : 0 ≤ y1) (hy2 : 0 ≤ y2) (j : Nat) (hj : j < n) : gd al j ≤ gd (al2 n i al t y1 y2) j ∧ gd (al2 n i al t y1 y2) j ≤ t.seq + y2 ∧ gd (al1 n i al t y1) j ≤ gd (al2 n i al t y1 y2) j := by
  have a1 := al1_ge h hy j hj
  unfold al2
  split
  · rw [gd_set _ _ (by rw [al1_len h]; exact h.k8)]
    split
    · rename_i e; subst e; omega
    · omega
  · omega
theorem may_ok (h : SInv n i al ll sl t) (hi : i < 200) (hy : 0 ≤ y1) (hy2 : 0 ≤ y2) (h3 : y2 ≤ 3) : mayV (tk1 t y2) (1 + ((i % n : Nat) : Int)) (gd (al2 n i al t y1 y2) (i % n)) = true := by
  have hs := h.seqb
  have hh := h.hop
  have hk := h.k8
  have a1 := al2_ge (y1 := y1) (y2 := y2) h hy hy2 _ h.kn
  have a2 := h.ab _ h.kn
  unfold mayV
  rw [tok1 h.tk h.ask hy2 (by omega)]
  have e : (tk1 t y2).hop = t.hop := rfl
  rw [e, hh]
  unfold withinB
  simp
  omega
theorem tk2_eq (h : SInv n i al ll sl t) (hi : i < 200) (hy : 0 ≤ y1) (hy2 : 0 ≤ y2) (h3 : y2 ≤ 3) :
    tk2 n i al t y1 y2 = ⟨t.r1, t.r2, t.hop + 1, t.seq + y2, (aruV (tk1 t y2) (1 + ((i % n : Nat) : Int)) (gd (al2 n i al t y1 y2) (i % n))).1, (aruV (tk1 t y2) (1 + ((i % n : Nat) : Int)) (gd (al2 n i al t y1 y2) (i % n))).2, t.stamp, t.idle, []⟩ := by
  have hs := h.seqb
  unfold tk2 visitT
  rw [if_pos (may_ok h hi hy hy2 h3), askV_nil (tok1 h.tk h.ask hy2 (by omega))]
  show _ = _
  rw [show (tk1 t y2).ask = [] from h.ask]
  rfl
theorem aru_cases (h : SInv n i al ll sl t) (hi : i < 200) (hy : 0 ≤ y1) (hy2 : 0 ≤ y2) (h3 : y2 ≤ 3) :
    ((gd (al2 n i al t y1 y2) (i % n) < t.aru ∨ t.low = 1 + ((i % n : Nat) : Int) ∨ t.low = 0) ∧ (tk2 n i al t y1 y2).aru = gd (al2 n i al t y1 y2) (i % n) ∧ (tk2 n i al t y1 y2).low = (if gd (al2 n i al t y1 y2) (i % n) = t.seq + y2 then 0 else 1 + ((i % n : Nat) : Int))) ∨
    (¬(gd (al2 n i al t y1 y2) (i % n) < t.aru ∨ t.low = 1 + ((i % n : Nat) : Int) ∨ t.low = 0) ∧ (tk2 n i al t y1 y2).aru = t.aru ∧ (tk2 n i al t y1 y2).low = t.low) := by
  rw [tk2_eq h hi hy hy2 h3]
  have a1 := al2_ge (y1 := y1) (y2 := y2) h hy hy2 _ h.kn
  generalize gd (al2 n i al t y1 y2) (i % n) = a at a1 ⊢
  unfold aruV
  show (_ ∧ (if a < t.aru ∨ t.low = 1 + ((i % n : Nat) : Int) ∨ t.low = 0 then (if t.seq + y2 < a then t.seq + y2 else a, if (if t.seq + y2 < a then t.seq + y2 else a) = t.seq + y2 then 0 else 1 + ((i % n : Nat) : Int)) else (t.aru, t.low)).1 = a ∧ (if a < t.aru ∨ t.low = 1 + ((i % n : Nat) : Int) ∨ t.low = 0 then (if t.seq + y2 < a then t.seq + y2 else a, if (if t.seq + y2 < a then t.seq + y2 else a) = t.seq + y2 then 0 else 1 + ((i % n : Nat) : Int)) else (t.aru, t.low)).2 = _) ∨ (_ ∧ (if a < t.aru ∨ t.low = 1 + ((i % n : Nat) : Int) ∨ t.low = 0 then (if t.seq + y2 < a then t.seq + y2 else a, if (if t.seq + y2 < a then t.seq + y2 else a) = t.seq + y2 then 0 else 1 + ((i % n : Nat) : Int)) else (t.aru, t.low)).1 = _ ∧ (if a < t.aru ∨ t.low = 1 + ((i % n : Nat) : Int) ∨ t.low = 0 then (if t.seq + y2 < a then t.seq + y2 else a, if (if t.seq + y2 < a then t.seq + y2 else a) = t.seq + y2 then 0 else 1 + ((i % n : Nat) : Int)) else (t.aru, t.low)).2 = _)
  have e : (if t.seq + y2 < a then t.seq + y2 else a) = a := by split <;> omega
  rw [e]
  by_cases hc : a < t.aru ∨ t.low = 1 + ((i % n : Nat) : Int) ∨ t.low = 0
  · rw [if_pos hc]; exact .inl ⟨hc, rfl, rfl⟩
  · rw [if_neg hc]; exact .inr ⟨hc, rfl, rfl⟩
theorem SInv.step (h : SInv n i al ll sl t) (hi : i < 200) (hy : 0 ≤ y1) (hy2 : 0 ≤ y2) (h3 : y2 ≤ 3) (hy3 : 0 ≤ y3) (hjj : jj < n) :
    SInv n (i + 1) (al3 n i al t y1 y2 y3 jj) (ll1 n i al ll t y1 y2) (sl1 n i ll sl t) (tk2 n i al t y1 y2) := by
  have hE := tk2_eq (y1 := y1) (y2 := y2) h hi hy hy2 h3
  have hC := aru_cases (y1 := y1) (y2 := y2) h hi hy hy2 h3
  have hV : tokB (tk2 n i al t y1 y2) = true := (tokB_visit (g := []) (may_ok (y1 := y1) (y2 := y2) h hi hy hy2 h3)).1
  have hseq : (tk2 n i al t y1 y2).seq = t.seq + y2 := by rw [hE]
  have hsb := h.seqb
  have hn1 := h.n1
  have hn8 := h.n8
  have hkn := h.kn
  have h3ge : ∀ j, j < n → gd (al2 n i al t y1 y2) j ≤ gd (al3 n i al t y1 y2 y3 jj) j ∧ gd (al3 n i al t y1 y2 y3 jj) j ≤ t.seq + y2 := by
    intro j hj
    have a1 := al2_ge (y1 := y1) (y2 := y2) h hy hy2 j hj
    unfold al3
    rw [gd_set _ _ (by rw [al2_len h]; omega), hseq]
    split
    · rename_i e; subst e
      split <;> omega
    · omega
  refine ⟨h.n1, h.n8, by unfold al3; rw [List.length_set, al2_len h], by unfold ll1; rw [List.length_set, h.lll], by unfold sl1; rw [List.length_set, h.ls], hV, ?_, ?_, ?_, ?_, ?_, ?_, ?_⟩
  · rw [hE]; show t.hop + 1 = _; rw [h.hop]; omega
  · rw [hE]
  · rw [hseq]; omega
  · intro j hj
    rw [hseq]
    have a1 := al2_ge (y1 := y1) (y2 := y2) h hy hy2 j hj
    have a2 := h.ab j hj
    have a3 := h3ge j hj
    omega
  · intro k hk j hj
    have a1 := al2_ge (y1 := y1) (y2 := y2) h hy hy2 j hj
    have a3 := h3ge j hj
    by_cases e : k = i % n
    · subst e
      have := safe_ok (y1 := y1) h hy j hj
      omega
    · unfold sl1
      rw [gd_set _ _ (by rw [h.ls]; exact h.k8), if_neg e]
      have := h.sb k hk j hj
      omega
  · intro k hk
    rw [hseq]
    unfold ll1
    rw [gd_set _ _ (by rw [h.lll]; exact h.k8)]
    have a1 := al2_ge (y1 := y1) (y2 := y2) h hy hy2 _ h.kn
    have a2 := h.lb k hk
    have a3 := (tok_bd (t := t) (by unfold tokE; rw [if_pos h.tk]))
    split
    · rcases hC with ⟨_, e, _⟩ | ⟨_, e, _⟩ <;> rw [e] <;> omega
    · omega
  · intro k hk
    rw [next_mod i hn1]
    have b1 := al2_ge (y1 := y1) (y2 := y2) h hy hy2 _ h.kn
    have b3 := h3ge _ h.kn
    have hA : (tk2 n i al t y1 y2).aru ≤ gd (al2 n i al t y1 y2) (i % n) := by
      rcases hC with ⟨_, e, _⟩ | ⟨hn, e, _⟩ <;> rw [e] <;> omega
    unfold ll1
    rw [gd_set _ _ (by rw [h.lll]; exact h.k8)]
    by_cases ek : k = i % n
    · rw [if_pos ek]
      refine ⟨fun j hj hv => .inl ?_, .inl (Int.le_refl _)⟩
      have : j = i % n := by
        unfold Vs at hv
        subst ek
        generalize i % n = c at *
        split at hv <;> split at hv <;> omega
      rw [this]
      omega
    · rw [if_neg ek]
      obtain ⟨p1, p2⟩ := h.pk k hk
      refine ⟨fun j hj hv => ?_, ?_⟩
      · by_cases ej : j = i % n
        · rw [ej]; exact .inr (by omega)
        · have c1 := al2_ge (y1 := y1) (y2 := y2) h hy hy2 j hj
          have c3 := h3ge j hj
          have hv' : Vs k j (i % n) := by
            unfold Vs at hv ⊢
            generalize i % n = c at *
            split at hv <;> split at hv <;> split <;> omega
          rcases p1 j hj hv' with q | q
          · exact .inl (by omega)
          · rcases hC with ⟨hb, e, _⟩ | ⟨_, e, _⟩
            · rw [e]
              by_cases hle : gd (al2 n i al t y1 y2) (i % n) ≤ t.aru
              · exact .inr (by omega)
              · rcases p2 with q2 | ⟨m, hm, hlow, hvm⟩
                · exact .inl (by omega)
                · exfalso
                  have : m = i % n := by omega
                  unfold Vs at hvm
                  split at hvm <;> omega
            · rw [e]; exact .inr (by omega)
      · rcases hC with ⟨hb, e, el⟩ | ⟨_, e, el⟩
        · rw [e, el]
          by_cases hle : gd ll k ≤ gd (al2 n i al t y1 y2) (i % n)
          · exact .inl hle
          · have a2 := h.lb k hk
            rw [if_neg (by omega)]
            refine .inr ⟨i % n, hkn, by omega, ?_⟩
            unfold Vs
            split <;> split <;> omega
        · rw [e, el]
          rcases p2 with q2 | ⟨m, hm, hlow, hvm⟩
          · exact .inl q2
          · refine .inr ⟨m, hm, hlow, ?_⟩
            unfold Vs at hvm ⊢
            split at hvm <;> split <;> split <;> omega
end
end Go.Proofs.Ytkolmkdbjagfcaa

namespace Go.Proofs.Ytkolmkdbjagfcaa
open Go.Hb
attribute [local irreducible] LR CW At Ev thn blk finK noG again CallsTo DW QL dnext
set_option linter.unusedSimpArgs false
set_option linter.unusedVariables false
set_option maxRecDepth 100000

def bringT (i n : Int) : Int := if n ≤ 0 then 0 else if i.tmod n < 0 then i.tmod n + n else i.tmod n
theorem tmod_bdT (i n : Int) (h : 0 < n) : -n < i.tmod n ∧ i.tmod n < n := by
  have h1 := Int.tmod_lt_of_pos i h
  have h2 := Int.tmod_lt_of_pos (-i) h
  rw [Int.neg_tmod] at h2
  omega
theorem bringT_bd (i n : Int) (h : 0 < n) : 0 ≤ bringT i n ∧ bringT i n < n := by
  have := tmod_bdT i n h
  unfold bringT; rw [if_neg (by omega)]; split <;> omega
theorem t21 (i n : Int) (w : World) (hn : n ≤ 9223372036854775807) : CallsTo Try.prog 19 [.int .i64 i, .int .i64 n] w fun v w' => v = .int .i64 (bringT i n) ∧ Grew w w' := by
  refine go_in (n := 16) (St.refl _ NoF) Try.func19 rfl rfl ?_
  by_cases h : n ≤ 0
  · repeat'(first|(apply kp;iterate 2 exact rfl)|apply jJ|(apply jE;exact rfl)|(apply jp;exact rfl)|(apply jc;kernel_rfl)|((first|apply kf|apply kn|apply ke|apply kx|apply kc|apply kb);iterate 2 exact rfl)|((first|apply kz|apply ky);(·exact rfl);(·repeat(first|exact iO|exact iR rfl|apply iT));iterate 2 exact rfl)|(apply kg;iterate 2 exact rfl)|(apply kG;iterate 3 exact rfl)|(apply kB;(iterate 2 exact rfl);intro _)|(apply kA;exact rfl;intro _)|(apply Go.Hb.kK;(iterate 4 exact rfl);intro _)|(apply kU;(iterate 2 exact rfl);(·repeat(first|exact sH _ _ _|apply sT));(first|exact nfL_eq rfl|exact rfl);exact rfl)|((first|apply kh|apply kl);(iterate 2 exact rfl);(first|decide|omega);exact rfl)|((first|(apply kR;iterate 2 exact rfl)|(apply kQ;exact rfl));all_goals(intro hc;try simp only[hcs]at hc;try(exfalso;first|contradiction|omega))))
    (apply ret1; (· exact rfl); intro w' hS)
    exact ⟨congrArg (Value.int .i64) (by unfold bringT; rw [if_pos h]), hS⟩
  · have hb := tmod_bdT i n (by omega)
    repeat'(first|(apply kp;iterate 2 exact rfl)|apply jJ|(apply jE;exact rfl)|(apply jp;exact rfl)|(apply jc;kernel_rfl)|((first|apply kf|apply kn|apply ke|apply kx|apply kc|apply kb);iterate 2 exact rfl)|((first|apply kz|apply ky);(·exact rfl);(·repeat(first|exact iO|exact iR rfl|apply iT));iterate 2 exact rfl)|(apply kg;iterate 2 exact rfl)|(apply kG;iterate 3 exact rfl)|(apply kB;(iterate 2 exact rfl);intro _)|(apply kA;exact rfl;intro _)|(apply Go.Hb.kK;(iterate 4 exact rfl);intro _)|(apply kU;(iterate 2 exact rfl);(·repeat(first|exact sH _ _ _|apply sT));(first|exact nfL_eq rfl|exact rfl);exact rfl)|((first|apply kh|apply kl);(iterate 2 exact rfl);(first|decide|omega);exact rfl)|(apply LR.ev; (· apply Ev.rem; (· exact rfl); (· exact rfl); (· first | decide | omega)); (· exact rfl))|(apply addX;(iterate 2 exact rfl);(iterate 2(first|omega|(dsimp only;omega)));exact rfl)|((first|(apply kR;iterate 2 exact rfl)|(apply kQ;exact rfl));all_goals(intro hc;try simp only[hcs]at hc;try(exfalso;first|contradiction|omega))))
    all_goals (
      (apply ret1; (· exact rfl); intro w' hS)
      refine ⟨congrArg (Value.int .i64) ?_, hS⟩
      unfold bringT; rw [if_neg h]
      first | rw [if_pos (by omega)] | rw [if_neg (by omega)])
theorem and_bd (z : Int) (m : Nat) (h : m < 1000000) : 0 ≤ andI .i64 z (m : Int) ∧ andI .i64 z (m : Int) ≤ m := by
  unfold andI
  have e : (BitVec.ofInt IntKind.i64.bits (m : Int)).toNat = m := by
    show (BitVec.ofInt 64 (m : Int)).toNat = m
    rw [BitVec.toNat_ofInt]
    omega
  have h1 : (BitVec.ofInt IntKind.i64.bits z &&& BitVec.ofInt IntKind.i64.bits (m : Int)).toNat ≤ m := by
    rw [BitVec.toNat_and, e]
    exact Nat.and_le_right
  rw [wrap_i64 (by omega) (by omega)]
  omega
theorem new_one : newTk 1 1 0 = (⟨1, 1, 1, 0, 0, 0, 0, 0, []⟩, 0) := by decide +kernel
abbrev tkI (b : Nat) (t : Tk) (a : Option Addr) (c : Nat) : Asrt := .own b (.cells (t.cells a c).toArray 72 (0, 0))
def lset (i : Nat) : List Int := List.replicate i (-1) ++ List.replicate (8 - i) 0
theorem splice_one1 (cs : List Value) (i : Nat) (v : Value) (h : i < cs.length) : splice cs i [v] = cs.set i v := by
  unfold splice
  rw [List.set_eq_take_append_cons_drop, if_pos h]
  simp
theorem Stores_arr {P : Program} {b q i : Nat} {T E : TypeId} {v : Value} {cs : List Value} (h : Sz P T 1) (hv : v.cells = [v].toArray) (h1 : Value.oneCell' v = true) (hq : q = i) (hi : i < cs.length) :
    Stores P T ⟨b, q, none⟩ v (.own b (.cells cs.toArray E (0, 0))) (.own b (.cells (cs.set i v).toArray E (0, 0))) := by
  subst hq
  have := Stores.own (P := P) (T := T) (b := b) (o := q) (v := v) (cs := cs) (vs := [v]) (E := E) h hv (by simp [h1]) rfl (by simp; omega)
  rwa [splice_one1 _ _ _ hi] at this
theorem cellI {w0 w : World} {F : Nat → Prop} {L : List Asrt} {b q k : Nat} {l : List Int} {E : TypeId} {fr : Nat × Nat} (h : St w0 F L w) (hm : Asrt.own b (.cells (iv l).toArray E fr) ∈ L) (hq : q = k) (hk : k < l.length) : w.cell? ⟨b, q, none⟩ = some (.int .i64 (gd l k)) := by
  subst hq
  rw [cell_own (show w.heap[b]? = some (.cells (iv l).toArray E fr) from h.holds _ hm)]
  simpa using gd_get hk
theorem lset_succ {i : Nat} (h : i < 8) : (lset i).set i (-1) = lset (i + 1) := by
  have : i = 0 ∨ i = 1 ∨ i = 2 ∨ i = 3 ∨ i = 4 ∨ i = 5 ∨ i = 6 ∨ i = 7 := by omega
  rcases this with rfl | rfl | rfl | rfl | rfl | rfl | rfl | rfl <;> rfl
theorem lset_len {i : Nat} (h : i ≤ 8) : (lset i).length = 8 := by unfold lset; simp; omega
theorem gd_lset {i j : Nat} (h : j < i) : gd (lset i) j = -1 := by
  unfold gd lset
  rw [List.getD_eq_getElem?_getD, List.getElem?_append_left (by simpa using h)]
  simp [h]
theorem gd_zeros (j : Nat) : gd (List.replicate 8 0) j = 0 := by
  unfold gd
  rw [List.getD_eq_getElem?_getD, List.getElem?_replicate]
  split <;> rfl
def tokZ : Tk := ⟨1, 1, 1, 0, 0, 0, 0, 0, []⟩
theorem SInv.start {n : Nat} (h1 : 1 ≤ n) (h8 : n ≤ 8) : SInv n 0 (List.replicate 8 0) (lset n) (List.replicate 8 0) tokZ := by
  refine ⟨h1, h8, rfl, lset_len h8, rfl, by decide +kernel, rfl, rfl, by decide, fun j _ => ?_, fun k _ j _ => ?_, fun k hk => ?_, fun k hk => ⟨fun j _ _ => .inl ?_, .inl ?_⟩⟩
  · rw [gd_zeros]; decide
  · rw [gd_zeros, gd_zeros]; decide
  · rw [gd_lset hk]; decide
  · rw [gd_lset hk, gd_zeros]; decide
  · rw [gd_lset hk]; decide
theorem q1 (k : Nat) : 0 + (k : Int).toNat * 1 = k := by simp
theorem and_3 (z : Int) : 0 ≤ andI .i64 z 3 ∧ andI .i64 z 3 ≤ 3 := and_bd z 3 (by decide)
theorem and_7 (z : Int) : 0 ≤ andI .i64 z 7 ∧ andI .i64 z 7 ≤ 7 := and_bd z 7 (by decide)
theorem and_7n (z : Int) : ∃ q : Nat, andI .i64 z 7 = (q : Int) := ⟨(andI .i64 z 7).toNat, by have := and_7 z; omega⟩
theorem addA3 {P : Program} {C : World → Prop} {f : Frm} {T T' T'' : TypeId} {x y : Operand} {a z : Int} (hx : f.ev x = .int .i64 a) (hy : f.ev y = .int .i64 (andI .i64 z 3)) (h1 : 0 ≤ a) (h2 : a ≤ 9007199254740991) :
    Ev P C f (.binOp .add T' x y T'') T (.int .i64 (a + andI .i64 z 3)) := by
  have := and_3 z
  exact Ev.add hx hy (by omega) (by omega)
theorem st_tok {b : Nat} {t t' : Tk} {a a' : Option Addr} {c c' : Nat} : Stores Try.prog 72 ⟨b, 0, none⟩ (t'.val a' c') (tkI b t a c) (tkI b t' a' c') :=
  Stores.own (P := Try.prog) (T := 72) (b := b) (o := 0) (v := t'.val a' c') (cs := t.cells a c) (vs := t'.cells a' c') (E := 72) inferInstance rfl rfl rfl (by simp [Tk.cells])
theorem ownsAt_nz {w : World} {E : TypeId} {sz n c : Nat} {a : Option Addr} {xs : List Value} (h : ownsAt w E sz (.slice a n c) n xs) (e : a = none) : c = 0 := by
  rcases h.2 with ⟨he, hn⟩ | ⟨g, o, cap, cur, he, _⟩
  · simp only [Value.slice.injEq] at he
    exact he.2.2
  · simp only [Value.slice.injEq] at he
    rw [he.1] at e
    cases e
structure Sst where
  i : Nat
  al : List Int
  ll : List Int
  sl : List Int
  t : Tk
  a : Option Addr
  c : Nat
end Go.Proofs.Ytkolmkdbjagfcaa

namespace Go.Proofs.Ytkolmkdbjagfcaa
open Go.Hb
attribute [local irreducible] LR CW At Ev thn blk finK noG again CallsTo DW QL dnext TW DP
set_option linter.unusedSimpArgs false
set_option linter.unusedVariables false
set_option maxRecDepth 100000

/-! ### plain -/
theorem has_wpD (D : List Dat) (d : Dat) (s : Int) : hasD (wpD D d) s = (hasD D s || (wpOk d && decide (d.seq = s))) := by
  unfold wpD wpNew
  cases hk : wpOk d <;> cases hh : hasD D d.seq <;> simp [hasD_snoc]
  intro e
  rw [← e, hh]
structure IsHigh (D : List Dat) (h : Int) : Prop where
  pos : 0 ≤ h
  up : ∀ s, hasD D s = true → s ≤ h
  at_ : h = 0 ∨ hasD D h = true
theorem IsHigh.nil : IsHigh [] 0 := ⟨by omega, fun s h => (by cases h), .inl rfl⟩
theorem IsHigh.put {D : List Dat} {h : Int} (hh : IsHigh D h) (d : Dat) : IsHigh (wpD D d) (wpH D h d) := by
  unfold wpD wpH
  cases hn : wpNew D d with
  | false => exact hh
  | true =>
    have hp := hh.pos
    have hd : 1 ≤ d.seq := by
      unfold wpNew wpOk at hn
      simp only [Bool.and_eq_true, decide_eq_true_eq] at hn
      exact hn.1.2.1
    simp only [if_true]
    refine ⟨by omega, fun s hs => ?_, ?_⟩
    · rw [hasD_snoc, Bool.or_eq_true, decide_eq_true_eq] at hs
      rcases hs with hs | hs
      · have := hh.up s hs; omega
      · omega
    · rw [hasD_snoc]
      rcases Int.le_total h d.seq with hle | hle
      · exact .inr (by rw [show max h d.seq = d.seq by omega]; simp)
      · rcases hh.at_ with h0 | h0
        · omega
        · exact .inr (by rw [show max h d.seq = h by omega, h0]; rfl)
theorem IsHigh.uniq {D E : List Dat} {h k : Int} (hD : IsHigh D h) (hE : IsHigh E k) (e : hasD D = hasD E) : h = k := by
  have h1 : h ≤ k := by
    rcases hD.at_ with h0 | h0
    · rw [h0]; exact hE.pos
    · rw [e] at h0; exact hE.up h h0
  have h2 : k ≤ h := by
    rcases hE.at_ with h0 | h0
    · rw [h0]; exact hD.pos
    · rw [← e] at h0; exact hD.up k h0
  omega
theorem IsAru.congr {D E : List Dat} {n : Int} (h : IsAru D n) (e : hasD D = hasD E) : IsAru E n := by
  unfold IsAru Upto at *
  rwa [← e]
theorem gapsT_congr {D E : List Dat} (e : hasD D = hasD E) (h m : Int) : gapsT D h m = gapsT E h m := by
  unfold gapsT absent
  rw [e]
theorem sqs_congr {D E : List Dat} (hD : WOk D) (hE : WOk E) (e : hasD D = hasD E) : sqs D = sqs E := by
  unfold sqs sortI
  refine mergeSort_of_perm_i ((List.perm_ext_iff_of_nodup hD.nodup hE.nodup).2 fun s => ?_)
  have h1 := congrFun e s
  rw [Bool.eq_iff_iff, has_iff, has_iff] at h1
  rw [List.mem_map, List.mem_map]
  exact h1
theorem getT_seq {D : List Dat} {s : Int} (h : hasD D s = true) : (getT D s).seq = s := by
  rw [← fnd_has] at h
  obtain ⟨d, hd⟩ := Option.isSome_iff_exists.1 h
  unfold getT
  rw [hd]
  unfold fndD at hd
  simpa using List.find?_some hd
theorem abv_seq (D : List Dat) (q : Int) : (abvT D q).map Dat.seq = (sqs D).filter fun s => decide (q < s) := by
  unfold abvT abvS
  rw [List.map_map]
  refine (List.map_congr_left (g := id) fun s hs => ?_).trans (List.map_id _)
  exact getT_seq (mem_sqs.1 (List.mem_filter.1 hs).1)
theorem oneD_ok {n : Int} (h1 : 1 ≤ n) (h2 : n ≤ 9007199254740991) : wpOk (oneD n) = true := by
  unfold wpOk
  have : ringE (oneD n).rseq (oneD n).rrep = 0 := (show ringE 1 1 = 0 by decide)
  exact decide_eq_true ⟨this, h1, h2⟩
theorem oneD_has (D : List Dat) {n : Int} (h1 : 1 ≤ n) (h2 : n ≤ 9007199254740991) (s : Int) : hasD (wpD D (oneD n)) s = (hasD D s || decide (n = s)) := by
  rw [has_wpD, oneD_ok h1 h2]
  rfl
theorem oneD_E {n : Int} (h1 : 1 ≤ n) (h2 : n ≤ 9007199254740991) : wpE (oneD n) = 0 := by unfold wpE; rw [oneD_ok h1 h2]; rfl
theorem dats_len (es : List DaA) : (dats es).length = es.length := by simp [dats]
theorem wpD_len (D : List Dat) (d : Dat) : (wpD D d).length ≤ D.length + 1 := by unfold wpD; split <;> simp
/-- What has been put in: the first i of a list. -/
structure Fed (K : List Int) (i : Nat) (es : List DaA) (aru high : Int) : Prop where
  ok : WOk (dats es)
  has : ∀ s, hasD (dats es) s = true ↔ s ∈ K.take i
  aru : IsAru (dats es) aru
  high : IsHigh (dats es) high
  len : es.length ≤ i
theorem Fed.nil (K : List Int) : Fed K 0 [] 0 0 := ⟨WOk.nil, fun s => by simp [dats, hasD], IsAru.nil, IsHigh.nil, by simp⟩
theorem Fed.put {K : List Int} {i : Nat} {es es' : List DaA} {aru high aru' : Int} (h : Fed K i es aru high) (hi : i < K.length) (hK : ∀ x ∈ K, 1 ≤ x ∧ x ≤ 60) (he : dats es' = wpD (dats es) (oneD K[i])) (ha : IsAru (wpD (dats es) (oneD K[i])) aru') : Fed K (i + 1) es' aru' (wpH (dats es) high (oneD K[i])) := by
  have hk := hK _ (List.getElem_mem hi)
  refine ⟨by rw [he]; exact wpD_ok h.ok (Nat.zero_le _), fun s => ?_, by rw [he]; exact ha, by rw [he]; exact h.high.put _, ?_⟩
  · rw [he, oneD_has _ hk.1 (by omega), Bool.or_eq_true, h.has, take_snocI hi, List.mem_append, List.mem_singleton, decide_eq_true_eq]
    exact or_congr Iff.rfl ⟨fun e => e.symm, fun e => e.symm⟩
  · have h1 := congrArg List.length he
    have h2 := wpD_len (dats es) (oneD K[i])
    have h3 := h.len
    rw [dats_len] at h1 h2
    omega
theorem hD_bring (n : Int) : 1 ≤ 1 + bringT n 60 ∧ 1 + bringT n 60 ≤ 60 := by have := bringT_bd n 60 (by omega); omega
theorem dO_r {w : World} {a : Option Addr} {c : Nat} {o : List DaA} (h : (dO a c o).holds w) : Rd w a (o.flatMap DaA.row) := by
  have : (dS a c o).holds w := h.1
  exact ownsRow_rd this
theorem dO_b {w : World} {a : Option Addr} {c : Nat} {o : List DaA} (h : (dO a c o).holds w) {x : DaA} (hx : x ∈ o) : Rd w x.a (bv x.d.msg.body) := by
  have : (DaA.body x).holds w := h.2.1.1 x hx
  exact ownsRow_rd this
structure Ost where
  i : Nat
  es : List DaA
  ar : Int
  hi : Int
  fs : List DaA
  br : Int
  hj : Int
end Go.Proofs.Ytkolmkdbjagfcaa

namespace Go.Hb
set_option linter.unusedSimpArgs false
set_option linter.unusedVariables false

abbrev B64 (c : Int) : BitVec 64 := BitVec.ofInt 64 c
def tb (c : Int) (n : Nat) : Bool := (B64 c).getLsbD n
theorem wrap_toInt (x : BitVec 64) : IntKind.i64.wrap (x.toNat : Int) = x.toInt := by
  have hx := x.isLt
  have e1 : IntKind.i64.bits = 64 := rfl
  have e2 : IntKind.i64.signed = true := rfl
  unfold IntKind.wrap
  rw [e1, e2, BitVec.toInt_eq_toNat_cond]
  simp only [Bool.true_and, ge_iff_le, decide_eq_true_eq]
  split <;> split <;> omega
theorem andI_eq (a b : Int) : andI .i64 a b = (B64 a &&& B64 b).toInt := wrap_toInt _
theorem andNotI_eq (a b : Int) : andNotI .i64 a b = (B64 a &&& ~~~ B64 b).toInt := wrap_toInt _
theorem toInt_zero {x : BitVec 64} : x.toInt = 0 ↔ x = 0 := by
  constructor
  · intro h
    have : x.toInt = (0 : BitVec 64).toInt := by rw [h]; rfl
    exact BitVec.toInt_inj.1 this
  · rintro rfl; rfl
theorem low9 {n : Nat} (h : n ≤ 8) : n = 0 ∨ n = 1 ∨ n = 2 ∨ n = 3 ∨ n = 4 ∨ n = 5 ∨ n = 6 ∨ n = 7 ∨ n = 8 := by omega
theorem tb_div (c : Int) (n : Nat) (h : n ≤ 8) : tb c n = decide ((c.fdiv (2 ^ n)) % 2 = 1) := by
  unfold tb
  rw [← BitVec.testBit_toNat, Nat.testBit_eq_decide_div_mod_eq, BitVec.toNat_ofInt, decide_eq_decide, Int.fdiv_eq_ediv_of_nonneg c (by exact Int.le_of_lt (Int.pow_pos (by decide)))]
  rcases low9 h with rfl | rfl | rfl | rfl | rfl | rfl | rfl | rfl | rfl <;> simp only [Nat.reducePow, Int.reducePow, Nat.pow_zero, Int.pow_zero] <;> omega
theorem and_one (x : Int) : andI .i64 x 1 = x % 2 := by
  rw [andI_eq, BitVec.toInt_eq_toNat_cond, BitVec.toNat_and]
  have e : (B64 1).toNat = 1 := rfl
  rw [e, Nat.and_one_is_mod, BitVec.toNat_ofInt]
  split <;> omega
theorem shr_and (c : Int) (n : Nat) (h : n ≤ 8) : (andI .i64 (c.fdiv (2 ^ n)) 1 = 0) ↔ tb c n = false := by
  rw [and_one, tb_div c n h, decide_eq_false_iff_not]
  omega
theorem and_bit (c : Int) (n : Nat) (h : n ≤ 8) : (andI .i64 c (2 ^ n) = 0) ↔ tb c n = false := by
  rw [andI_eq, toInt_zero]
  have e : B64 (2 ^ n) = BitVec.twoPow 64 n := by
    rcases low9 h with rfl | rfl | rfl | rfl | rfl | rfl | rfl | rfl | rfl <;> rfl
  rw [e, BitVec.and_twoPow]
  unfold tb
  cases hx : (B64 c).getLsbD n with
  | false => simp
  | true =>
    simp only [if_true, Bool.true_eq_false, iff_false]
    intro h2
    have h3 := congrArg BitVec.toNat h2
    rcases low9 h with rfl | rfl | rfl | rfl | rfl | rfl | rfl | rfl | rfl <;> revert h3 <;> decide
/-- What the crew's bits amount to. -/
def sumTo (c : Int) : Nat → Int
  | 0 => 0
  | k + 1 => sumTo c k + if tb c (k + 1) then 2 ^ (k + 1) else 0
def sumB (c : Int) : Int := sumTo c 8
def crewOk (c : Int) : Bool := decide (0 ≤ c ∧ c ≤ 510 ∧ c % 2 = 0)
theorem crew_fin : ∀ k : Fin 512, (andNotI .i64 (k.val : Int) 510 = 0 ↔ crewOk (k.val : Int) = true) ∧ (sumB (k.val : Int) = (k.val : Int) ↔ crewOk (k.val : Int) = true) := by decide +kernel
theorem sumTo_bd (c : Int) : ∀ k, 0 ≤ sumTo c k ∧ sumTo c k ≤ 2 ^ (k + 1) - 2
  | 0 => by show (0 : Int) ≤ 0 ∧ (0 : Int) ≤ 2 ^ (0 + 1) - 2; decide
  | k + 1 => by
    have ih := sumTo_bd c k
    have hp : (0 : Int) < 2 ^ (k + 1) := Int.pow_pos (by decide)
    have e : (2 : Int) ^ (k + 1 + 1) = 2 ^ (k + 1) * 2 := Int.pow_succ 2 (k + 1)
    unfold sumTo
    split <;> omega
theorem sumB_bd (c : Int) : 0 ≤ sumB c ∧ sumB c ≤ 510 := sumTo_bd c 8
theorem andNot_le {x m : BitVec 64} (h : x &&& ~~~ m = 0) : x.toNat ≤ m.toNat := by
  have e : x = x &&& m := by
    refine BitVec.eq_of_getLsbD_eq fun i hi => ?_
    have h1 := congrArg (fun z => z.getLsbD i) h
    simp only [BitVec.getLsbD_and, BitVec.getLsbD_not, BitVec.getLsbD_zero, hi, decide_true, Bool.true_and] at h1 ⊢
    have h1 : (x.getLsbD i && !m.getLsbD i) = false := by simpa using h1
    revert h1
    cases x.getLsbD i <;> cases m.getLsbD i <;> simp
  rw [e, BitVec.toNat_and]
  exact Nat.and_le_right
theorem crew_rng {c : Int} (h1 : -9223372036854775808 ≤ c) (h2 : c ≤ 9223372036854775807) (h : andNotI .i64 c 510 = 0) : 0 ≤ c ∧ c ≤ 510 := by
  rw [andNotI_eq, toInt_zero] at h
  have h3 := andNot_le h
  have e : (B64 510).toNat = 510 := rfl
  rw [e, BitVec.toNat_ofInt] at h3
  omega
theorem andNot_ok {c : Int} (h1 : -9223372036854775808 ≤ c) (h2 : c ≤ 9223372036854775807) : andNotI .i64 c 510 = 0 ↔ crewOk c = true := by
  by_cases h : 0 ≤ c ∧ c < 512
  · have := (crew_fin ⟨c.toNat, by omega⟩).1
    simp only [Int.toNat_of_nonneg h.1] at this
    exact this
  · constructor
    · intro h3
      have := crew_rng h1 h2 h3
      omega
    · intro h3
      unfold crewOk at h3
      rw [decide_eq_true_eq] at h3
      omega
theorem sumB_ok (c : Int) : sumB c = c ↔ crewOk c = true := by
  by_cases h : 0 ≤ c ∧ c < 512
  · have := (crew_fin ⟨c.toNat, by omega⟩).2
    simp only [Int.toNat_of_nonneg h.1] at this
    exact this
  · constructor
    · intro h3
      have := sumB_bd c
      omega
    · intro h3
      unfold crewOk at h3
      rw [decide_eq_true_eq] at h3
      omega
/-- Is a node in a crew? -/
def hasC (c n : Int) : Bool := decide (0 < n ∧ n ≤ 8) && tb c n.toNat
theorem tb_ok {c : Int} (h : crewOk c = true) {i : Nat} (hi : tb c i = true) : 1 ≤ i ∧ i ≤ 8 := by
  have hf : ∀ k : Fin 512, crewOk (k.val : Int) = true → ∀ j : Fin 64, tb (k.val : Int) j.val = true → 1 ≤ j.val ∧ j.val ≤ 8 := by decide +kernel
  have hc := h
  unfold crewOk at hc
  rw [decide_eq_true_eq] at hc
  rcases Nat.lt_or_ge i 64 with hlt | hge
  · have := hf ⟨c.toNat, by omega⟩
    simp only [Int.toNat_of_nonneg hc.1] at this
    exact this h ⟨i, hlt⟩ hi
  · unfold tb at hi
    rw [BitVec.getLsbD_of_ge _ _ hge] at hi
    cases hi
def withinC (a b : Int) : Bool := (List.range 8).all fun k => !tb a (k + 1) || tb b (k + 1)
theorem andNot_within {a b : Int} (ha : crewOk a = true) : andNotI .i64 a b = 0 ↔ withinC a b = true := by
  rw [andNotI_eq, toInt_zero]
  unfold withinC
  rw [List.all_eq_true]
  constructor
  · intro h k _
    have h1 := congrArg (fun z => z.getLsbD (k + 1)) h
    simp only [BitVec.getLsbD_and, BitVec.getLsbD_not, BitVec.getLsbD_zero] at h1
    unfold tb
    cases hx : (B64 a).getLsbD (k + 1) with
    | false => rfl
    | true =>
      have hi := BitVec.lt_of_getLsbD hx
      rw [hx] at h1
      simpa [hi] using h1
  · intro h
    refine BitVec.eq_of_getLsbD_eq fun i hi => ?_
    simp only [BitVec.getLsbD_and, BitVec.getLsbD_not, BitVec.getLsbD_zero, hi, decide_true, Bool.true_and]
    cases hx : (B64 a).getLsbD i with
    | false => simp
    | true =>
      have h1 := tb_ok ha (i := i) hx
      have h2 := h (i - 1) (List.mem_range.2 (by omega))
      rw [show i - 1 + 1 = i by omega] at h2
      unfold tb at h2
      rw [hx] at h2
      simpa using h2
end Go.Hb

namespace Go.Proofs.Ytkolmkdbjagfcaa
open Go.Hb
set_option linter.unusedSimpArgs false
set_option linter.unusedVariables false

theorem asc_extC {l r : List Int} (hl : l.Pairwise (· < ·)) (hr : r.Pairwise (· < ·)) (h : ∀ x, x ∈ l ↔ x ∈ r) : l = r := by
  have n1 : l.Nodup := hl.imp (fun hab => by omega)
  have n2 : r.Nodup := hr.imp (fun hab => by omega)
  refine List.Perm.eq_of_pairwise (le := fun a b => a < b) (fun a b _ _ h1 h2 => by omega) hl hr ((List.perm_ext_iff_of_nodup n1 n2).2 h)
structure Cfg where
  rs : Int
  rr : Int
  os : Int
  or_ : Int
  mem : Int
  trans : Bool
  stamp : Int
def zeroCfg : Cfg := ⟨0, 0, 0, 0, 0, false, 0⟩
structure EvD where
  kind : Int
  cfg : Cfg
  dat : Dat
def msgE (d : Dat) : EvD := ⟨2, zeroCfg, d⟩
def cfgE (c : Cfg) : EvD := ⟨1, c, zeroDat⟩
/-- Told, unless it was sent again. -/
def tellD (d : Dat) : List EvD := if d.msg.kind = 5 then [] else [msgE d]
/-- As the program goes. -/
def progT (safe kin : Int) (t : EvD) : Int → Bool → Bool → List Dat → List EvD
  | _, p, _, [] => if p then [] else [t]
  | at_, p, g, d :: r =>
    let g' := g || !decide (d.seq = at_ + 1)
    let cut := !p && (g' || (d.msg.safe && decide (safe < d.seq)))
    (if cut then [t] else []) ++ (if !g' || hasC kin d.sender then tellD d else []) ++ progT safe kin t d.seq (p || cut) g' r
/-- What comes behind the transitional configuration, by definition. -/
def tailT (kin n : Int) : Nat → Bool → List Dat → List EvD
  | _, _, [] => []
  | i, g, d :: r =>
    let g' := g || !decide (d.seq = n + 1 + (i : Int))
    (if !g' || hasC kin d.sender then tellD d else []) ++ tailT kin n (i + 1) g' r
theorem prog_passed (safe kin : Int) (t : EvD) (n : Int) : ∀ (L : List Dat) (at_ : Int) (i : Nat) (g : Bool), (g = true ∨ at_ = n + i) → progT safe kin t at_ true g L = tailT kin n i g L
  | [], _, _, _, _ => rfl
  | d :: r, at_, i, g, h => by
    unfold progT tailT
    have e : (g || !decide (d.seq = at_ + 1)) = (g || !decide (d.seq = n + 1 + (i : Int))) := by
      rcases h with rfl | rfl
      · rfl
      · rw [show n + (i : Int) + 1 = n + 1 + (i : Int) by omega]
    simp only [e, Bool.not_true, Bool.false_and, Bool.false_eq_true, if_false, List.nil_append, Bool.or_false]
    congr 1
    refine prog_passed safe kin t n r d.seq (i + 1) _ ?_
    by_cases hd : d.seq = n + 1 + (i : Int)
    · exact .inr (by rw [hd]; omega)
    · exact .inl (by rw [decide_eq_false hd]; simp)
/-- Does one stop ahead of n + 1? -/
def stopB (D : List Dat) (safe n : Int) : Bool := !hasD D (n + 1) || ((getT D (n + 1)).msg.safe && decide (safe < n + 1))
theorem abv_head {D : List Dat} (h : WOk D) {n : Int} (hn : hasD D (n + 1) = true) : abvT D n = getT D (n + 1) :: abvT D (n + 1) := by
  have e : (sqs D).filter (fun s => decide (n < s)) = (n + 1) :: (sqs D).filter (fun s => decide (n + 1 < s)) := by
    refine asc_extC ((sqs_asc h).filter _) ?_ fun x => ?_
    · rw [List.pairwise_cons]
      refine ⟨fun x hx => ?_, (sqs_asc h).filter _⟩
      have := (List.mem_filter.1 hx).2
      simpa using this
    · rw [List.mem_cons, List.mem_filter, List.mem_filter, decide_eq_true_eq, decide_eq_true_eq, mem_sqs]
      constructor
      · rintro ⟨h1, h2⟩
        by_cases e : x = n + 1
        · exact .inl e
        · exact .inr ⟨h1, by omega⟩
      · rintro (rfl | ⟨h1, h2⟩)
        · exact ⟨hn, by omega⟩
        · exact ⟨h1, by omega⟩
  unfold abvT abvS
  rw [e, List.map_cons]
theorem abv_gt {D : List Dat} {n : Int} {d : Dat} (h : d ∈ abvT D n) : n < d.seq ∧ hasD D d.seq = true ∧ d = getT D d.seq := by
  unfold abvT abvS at h
  obtain ⟨s, hs, rfl⟩ := List.mem_map.1 h
  rw [List.mem_filter, decide_eq_true_eq, mem_sqs] at hs
  have := getT_seq hs.1
  rw [this]
  exact ⟨hs.2, hs.1, rfl⟩
theorem prog_stop {D : List Dat} {safe kin : Int} {t : EvD} {n : Int} (hs : stopB D safe n = true) : progT safe kin t n false false (abvT D n) = t :: tailT kin n 0 false (abvT D n) := by
  cases hL : abvT D n with
  | nil => rfl
  | cons d r =>
    have hd := abv_gt (D := D) (n := n) (d := d) (by rw [hL]; exact List.mem_cons_self ..)
    have hcut : (!decide (d.seq = n + 1) || (d.msg.safe && decide (safe < d.seq))) = true := by
      by_cases e : d.seq = n + 1
      · unfold stopB at hs
        rw [← e, hd.2.1, ← hd.2.2] at hs
        simpa [e] using hs
      · simp [e]
    unfold progT tailT
    have e0 : n + 1 + ((0 : Nat) : Int) = n + 1 := by omega
    simp only [Bool.false_or, Bool.not_false, Bool.true_and, hcut, if_true, List.cons_append, List.nil_append, e0]
    congr 2
    refine prog_passed safe kin t n r d.seq 1 _ ?_
    by_cases e : d.seq = n + 1
    · exact .inr (by rw [e]; rfl)
    · exact .inl (by rw [decide_eq_false e]; rfl)
theorem prog_step {D : List Dat} (h : WOk D) {safe kin : Int} {t : EvD} {n : Int} (hs : stopB D safe n = false) : progT safe kin t n false false (abvT D n) = tellD (getT D (n + 1)) ++ progT safe kin t (n + 1) false false (abvT D (n + 1)) := by
  unfold stopB at hs
  rw [Bool.or_eq_false_iff] at hs
  have hn : hasD D (n + 1) = true := by simpa using hs.1
  have hq := getT_seq hn
  rw [abv_head h hn]
  rw [progT]
  simp only [hq, decide_true, Bool.not_true, Bool.or_false, Bool.false_or, hs.2, Bool.and_false, Bool.false_eq_true, if_false, List.nil_append, Bool.not_false, Bool.true_or, if_true]
theorem tail_step {D : List Dat} (h : WOk D) {kin : Int} {n : Int} (hn : hasD D (n + 1) = true) : tailT kin n 0 false (abvT D n) = tellD (getT D (n + 1)) ++ tailT kin (n + 1) 0 false (abvT D (n + 1)) := by
  have hq := getT_seq hn
  have hsh : ∀ (L : List Dat) (i : Nat) (g : Bool), tailT kin n (i + 1) g L = tailT kin (n + 1) i g L := by
    intro L
    induction L with
    | nil => intros; rfl
    | cons d r ih =>
      intro i g
      unfold tailT
      rw [show n + 1 + (((i + 1 : Nat) : Int)) = n + 1 + 1 + (i : Int) by omega]
      simp only [ih]
  rw [abv_head h hn]
  rw [tailT, show n + 1 + ((0 : Nat) : Int) = n + 1 by omega]
  simp only [hq, decide_true, Bool.not_true, Bool.or_false, Bool.not_false, Bool.true_or, if_true, hsh]
end Go.Proofs.Ytkolmkdbjagfcaa

namespace Go.Proofs.Ytkolmkdbjagfcaa
open Go.Hb
set_option linter.unusedSimpArgs false
set_option linter.unusedVariables false

/-- All up to n, told. -/
def preT (D : List Dat) : Nat → List EvD
  | 0 => []
  | k + 1 => preT D k ++ tellD (getT D ((k : Int) + 1))
theorem tail_pre {D : List Dat} (h : WOk D) (kin : Int) : ∀ n : Nat, (∀ s : Int, 1 ≤ s → s ≤ n → hasD D s = true) → tailT kin 0 0 false (abvT D 0) = preT D n ++ tailT kin n 0 false (abvT D n)
  | 0, _ => rfl
  | k + 1, hu => by
    rw [tail_pre h kin k (fun s h1 h2 => hu s h1 (by omega)), tail_step h (hu (k + 1) (by omega) (by omega)), ← List.append_assoc]
    rfl
/-- The numbers of what is told. -/
def numE (e : EvD) : Int := if e.kind = 2 then e.dat.seq else if e.cfg.trans then 0 else -1
def plainT (l : List Int) : List Int := l.filter fun x => decide (0 < x)
theorem num_msg (d : Dat) : numE (msgE d) = d.seq := rfl
theorem num_cfg (c : Cfg) : numE (cfgE c) = if c.trans then 0 else -1 := rfl
theorem tell_mem {d : Dat} {e : EvD} (h : e ∈ tellD d) : e = msgE d ∧ d.msg.kind ≠ 5 := by
  unfold tellD at h
  split at h
  · cases h
  · rename_i hk
    exact ⟨List.mem_singleton.1 h, hk⟩
theorem tail_mem {kin n : Int} : ∀ {L : List Dat} {i : Nat} {g : Bool} {e : EvD}, e ∈ tailT kin n i g L → ∃ d ∈ L, e = msgE d
  | [], _, _, _, h => by cases h
  | d :: r, i, g, e, h => by
    unfold tailT at h
    rcases List.mem_append.1 h with h | h
    · split at h
      · exact ⟨d, List.mem_cons_self .., (tell_mem h).1⟩
      · cases h
    · obtain ⟨x, hx, he⟩ := tail_mem h
      exact ⟨x, List.mem_cons_of_mem _ hx, he⟩
theorem plain_tail {D : List Dat} (h : WOk D) (kin n : Int) (i : Nat) (g : Bool) : plainT ((tailT kin n i g (abvT D n)).map numE) = (tailT kin n i g (abvT D n)).map numE := by
  unfold plainT
  rw [List.filter_eq_self]
  intro x hx
  obtain ⟨e, he, rfl⟩ := List.mem_map.1 hx
  obtain ⟨d, hd, rfl⟩ := tail_mem he
  have := (abv_gt hd).2.1
  obtain ⟨y, hy, e⟩ := has_iff.1 this
  have := (h.rng y hy).1
  rw [num_msg]
  exact decide_eq_true (by omega)
/-- What is told, with the configurations. -/
def toldT (D : List Dat) (done safe kin : Int) (t nx : Cfg) : List EvD := progT safe kin (cfgE t) done false false (abvT D done) ++ [cfgE nx]
theorem same_plain {D : List Dat} (h : WOk D) (kin safe : Int) (t nx : Cfg) (ht : t.trans = true) (hn : nx.trans = false) (n : Nat) (hu : ∀ s : Int, 1 ≤ s → s ≤ n → hasD D s = true) (hs : stopB D safe n = true) :
    (preT D n).map numE ++ plainT ((toldT D n safe kin t nx).map numE) = (tailT kin 0 0 false (abvT D 0)).map numE := by
  unfold toldT
  rw [prog_stop hs, tail_pre h kin n hu, List.map_append, List.map_append, List.map_cons, num_cfg, ht]
  congr 1
  have e : plainT (((if true = true then (0 : Int) else -1) :: List.map numE (tailT kin (n : Int) 0 false (abvT D n))) ++ List.map numE [cfgE nx]) = plainT (List.map numE (tailT kin (n : Int) 0 false (abvT D n))) := by
    unfold plainT
    rw [List.filter_append, List.filter_cons]
    simp [num_cfg, hn]
  rw [e, plain_tail h]
/-! ### the order -/
structure GapN (D : List Dat) (done gap : Int) : Prop where
  lt : done < gap
  no : hasD D gap = false
  yes : ∀ s, done < s → s < gap → hasD D s = true
inductive Good (t : EvD) (gap safe kin : Int) : Int → Bool → List EvD → Prop
  | nil (last : Int) : Good t gap safe kin last true []
  | trans {last : Int} {r : List EvD} : Good t gap safe kin last true r → Good t gap safe kin last false (t :: r)
  | msg {last : Int} {tr : Bool} {d : Dat} {r : List EvD} : d.msg.kind ≠ 5 → last < d.seq → (tr = false → (d.msg.safe && decide (safe < d.seq)) = false ∧ d.seq ≤ gap) → (gap < d.seq → hasC kin d.sender = true) → Good t gap safe kin d.seq tr r → Good t gap safe kin last tr (msgE d :: r)
theorem Good.mono {t : EvD} {gap safe kin : Int} : ∀ {l : List EvD} {a b : Int} {tr : Bool}, Good t gap safe kin a tr l → b ≤ a → Good t gap safe kin b tr l
  | [], _, _, _, .nil _, _ => .nil _
  | _ :: _, _, _, _, .trans h, hb => .trans (h.mono hb)
  | _ :: _, _, _, _, .msg h1 h2 h3 h4 h5, hb => .msg h1 (by omega) h3 h4 h5
theorem prog_good {D : List Dat} {done gap safe kin : Int} {t : EvD} (hg : GapN D done gap) : ∀ (L : List Dat) (at_ : Int) (p g : Bool), done ≤ at_ → (∀ d ∈ L, at_ < d.seq ∧ hasD D d.seq = true) → (L.map Dat.seq).Pairwise (· < ·) → (∀ s, at_ < s → hasD D s = true → s ∈ L.map Dat.seq) →
    (g = false → at_ < gap) → (g = true → gap < at_ ∧ p = true) → Good t gap safe kin at_ p (progT safe kin t at_ p g L)
  | [], at_, p, g, _, _, _, _, _, _ => by
    cases p with
    | true => exact .nil _
    | false => exact .trans (.nil _)
  | d :: r, at_, p, g, h0, h1, h2, h3, h4, h5 => by
    obtain ⟨hd1, hd2⟩ := h1 d (List.mem_cons_self ..)
    rw [List.map_cons, List.pairwise_cons] at h2
    have hne : d.seq ≠ gap := fun e => by rw [e, hg.no] at hd2; cases hd2
    -- is there a gap?
    have hg' : (g || !decide (d.seq = at_ + 1)) = decide (gap < d.seq) := by
      cases g with
      | true => have := (h5 rfl).1; simp; omega
      | false =>
        have := h4 rfl
        simp only [Bool.false_or]
        by_cases e : d.seq = at_ + 1
        · rw [decide_eq_true e, decide_eq_false (by omega)]; rfl
        · have hno : hasD D (at_ + 1) = false := by
            cases hx : hasD D (at_ + 1) with
            | false => rfl
            | true =>
              have hm := h3 (at_ + 1) (by omega) hx
              rw [List.map_cons, List.mem_cons] at hm
              rcases hm with hm | hm
              · exact absurd hm.symm e
              · have := h2.1 _ hm; omega
          have hle : gap ≤ at_ + 1 := by
            rcases Int.lt_or_le (at_ + 1) gap with hlt | hle
            · have := hg.yes (at_ + 1) (by omega) hlt
              rw [hno] at this
              cases this
            · exact hle
          rw [decide_eq_false e, decide_eq_true (by omega)]; rfl
    have hrest : ∀ p', (decide (gap < d.seq) = true → p' = true) → Good t gap safe kin d.seq p' (progT safe kin t d.seq p' (decide (gap < d.seq)) r) := fun p' hp' => by
      refine prog_good hg r d.seq p' _ (by omega) (fun x hx => ⟨h2.1 _ (List.mem_map_of_mem hx), (h1 x (List.mem_cons_of_mem _ hx)).2⟩) h2.2 (fun s hs hx => ?_) (fun e => ?_) (fun e => ⟨by simpa using e, hp' e⟩)
      · have hm := h3 s (by omega) hx
        rw [List.map_cons, List.mem_cons] at hm
        rcases hm with hm | hm
        · omega
        · exact hm
      · have : ¬ gap < d.seq := by simpa using e
        omega
    rw [progT]
    simp only [hg']
    -- the message, behind what may stand ahead of it
    have hmsg : ∀ p', (decide (gap < d.seq) = true → p' = true) → (p' = false → (d.msg.safe && decide (safe < d.seq)) = false) → Good t gap safe kin at_ p' ((if (!decide (gap < d.seq) || hasC kin d.sender) = true then tellD d else []) ++ progT safe kin t d.seq p' (decide (gap < d.seq)) r) := fun p' hp1 hp2 => by
      have hr := hrest p' hp1
      split
      · rename_i hc
        unfold tellD
        split
        · exact hr.mono (by omega)
        · rename_i hk
          refine .msg hk hd1 (fun e => ⟨hp2 e, ?_⟩) (fun hlt => ?_) hr
          · rcases Int.lt_or_le gap d.seq with hlt | hle
            · have := hp1 (decide_eq_true hlt); rw [e] at this; cases this
            · exact hle
          · rw [decide_eq_true hlt] at hc
            simpa using hc
      · exact hr.mono (by omega)
    cases p with
    | true =>
      simp only [Bool.not_true, Bool.false_and, Bool.false_eq_true, if_false, List.nil_append, Bool.or_false]
      exact hmsg true (fun _ => rfl) (fun e => by cases e)
    | false =>
      simp only [Bool.not_false, Bool.true_and, Bool.false_or]
      cases hc : (decide (gap < d.seq) || (d.msg.safe && decide (safe < d.seq))) with
      | true =>
        simp only [if_true, List.cons_append, List.nil_append]
        exact .trans (hmsg true (fun _ => rfl) (fun e => by cases e))
      | false =>
        rw [Bool.or_eq_false_iff] at hc
        simp only [Bool.false_eq_true, if_false, List.nil_append]
        exact hmsg false (fun e => by rw [hc.1] at e; cases e) (fun _ => hc.2)
theorem told_good {D : List Dat} (h : WOk D) {done gap safe kin : Int} {t : EvD} (hg : GapN D done gap) : Good t gap safe kin done false (progT safe kin t done false false (abvT D done)) := by
  refine prog_good hg _ done false false (Int.le_refl _) (fun d hd => ⟨(abv_gt hd).1, (abv_gt hd).2.1⟩) ?_ (fun s hs hx => ?_) (fun _ => hg.lt) (fun e => by cases e)
  · rw [abv_seq]
    exact (sqs_asc h).filter _
  · rw [abv_seq, List.mem_filter, mem_sqs]
    exact ⟨hx, decide_eq_true hs⟩
end Go.Proofs.Ytkolmkdbjagfcaa

namespace Go.Proofs.Ytkolmkdbjagfcaa
open Go.Hb
attribute [local irreducible] LR CW At Ev thn blk finK noG again CallsTo DW QL dnext TW DP
set_option linter.unusedSimpArgs false
set_option linter.unusedVariables false
set_option maxRecDepth 100000

def cmpI (x y : Int) : Int := if x < y then -1 else if y < x then 1 else 0
def orL : List Int → Int
  | [] => 0
  | x :: r => if x ≠ 0 then x else orL r
def ringsI (s r s' r' : Int) : Int := orL [cmpI s s', cmpI r r']
theorem q119 (x : Int) (w : World) : CallsTo Try.prog 119 [.int .i64 x] w fun v w' => v = .bool false ∧ Grew w w' := by
  refine go_in (n := 6) (St.refl _ NoF) Try.func119 rfl rfl ?_
  repeat'(first|(apply kp;iterate 2 exact rfl)|apply jJ|(apply jE;exact rfl)|(apply jp;exact rfl)|(apply jc;kernel_rfl)|((first|apply kf|apply kn|apply ke|apply kx|apply kc|apply kb);iterate 2 exact rfl)|((first|apply kz|apply ky);(·exact rfl);(·repeat(first|exact iO|exact iR rfl|apply iT));iterate 2 exact rfl)|(apply kg;iterate 2 exact rfl)|(apply kG;iterate 3 exact rfl)|(apply kB;(iterate 2 exact rfl);intro _)|(apply kA;exact rfl;intro _)|(apply Go.Hb.kK;(iterate 4 exact rfl);intro _)|(apply kU;(iterate 2 exact rfl);(·repeat(first|exact sH _ _ _|apply sT));(first|exact nfL_eq rfl|exact rfl);exact rfl)|((first|apply kh|apply kl);(iterate 2 exact rfl);(first|decide|omega);exact rfl)|((first|(apply kR;iterate 2 exact rfl)|(apply kQ;exact rfl));all_goals(intro hc;try simp only[hcs]at hc;try(exfalso;first|contradiction|omega))))
  (apply ret1; (· exact rfl); intro w' hS)
  exact ⟨congrArg Value.bool (by simp), hS⟩
theorem q103 (x y : Int) (w : World) : CallsTo Try.prog 103 [.int .i64 x, .int .i64 y] w fun v w' => v = .int .i64 (cmpI x y) ∧ Grew w w' := by
  refine go_in (n := 20) (St.refl _ NoF) Try.func103 rfl rfl ?_
  repeat'(first|(apply kp;iterate 2 exact rfl)|apply jJ|(apply jE;exact rfl)|(apply jp;exact rfl)|(apply jc;kernel_rfl)|((first|apply kf|apply kn|apply ke|apply kx|apply kc|apply kb);iterate 2 exact rfl)|((first|apply kz|apply ky);(·exact rfl);(·repeat(first|exact iO|exact iR rfl|apply iT));iterate 2 exact rfl)|(apply kg;iterate 2 exact rfl)|(apply kG;iterate 3 exact rfl)|(apply kB;(iterate 2 exact rfl);intro _)|(apply kA;exact rfl;intro _)|(apply Go.Hb.kK;(iterate 4 exact rfl);intro _)|(apply kU;(iterate 2 exact rfl);(·repeat(first|exact sH _ _ _|apply sT));(first|exact nfL_eq rfl|exact rfl);exact rfl)|((first|apply kh|apply kl);(iterate 2 exact rfl);(first|decide|omega);exact rfl)|(apply kq;(·exact rfl);(·intro w1 h1;exact CallsTo.q (q119 _ w1) h1))|((first|(apply kR;iterate 2 exact rfl)|(apply kQ;exact rfl));all_goals(intro hc;try simp only[hcs]at hc;try(exfalso;first|contradiction|omega))))
  all_goals (
    (apply ret1; (· exact rfl); intro w' hS)
    refine ⟨congrArg (Value.int .i64) ?_, hS⟩
    unfold cmpI; split <;> (try split) <;> omega)
theorem q107 (x y : Int) (w : World) : CallsTo Try.prog 107 [.int .i64 x, .int .i64 y] w fun v w' => v = .int .i64 (cmpI x y) ∧ Grew w w' := by
  refine go_in (n := 11) (St.refl _ NoF) Try.func107 rfl rfl ?_
  repeat'(first|(apply kp;iterate 2 exact rfl)|apply jJ|(apply jE;exact rfl)|(apply jp;exact rfl)|(apply jc;kernel_rfl)|((first|apply kf|apply kn|apply ke|apply kx|apply kc|apply kb);iterate 2 exact rfl)|((first|apply kz|apply ky);(·exact rfl);(·repeat(first|exact iO|exact iR rfl|apply iT));iterate 2 exact rfl)|(apply kg;iterate 2 exact rfl)|(apply kG;iterate 3 exact rfl)|(apply kB;(iterate 2 exact rfl);intro _)|(apply kA;exact rfl;intro _)|(apply Go.Hb.kK;(iterate 4 exact rfl);intro _)|(apply kU;(iterate 2 exact rfl);(·repeat(first|exact sH _ _ _|apply sT));(first|exact nfL_eq rfl|exact rfl);exact rfl)|((first|apply kh|apply kl);(iterate 2 exact rfl);(first|decide|omega);exact rfl)|((first|(apply kR;iterate 2 exact rfl)|(apply kQ;exact rfl));all_goals(intro hc;try simp only[hcs]at hc;try(exfalso;first|contradiction|omega))))
  all_goals (
    (apply ret1; (· exact rfl); intro w' hS)
    refine ⟨congrArg (Value.int .i64) ?_, hS⟩
    unfold cmpI; split <;> (try split) <;> omega)
theorem orL_skip {l : List Int} {i : Nat} (h : i < l.length) (h0 : l[i] = 0) : orL (l.drop i) = orL (l.drop (i + 1)) := by
  rw [List.drop_eq_getElem_cons h, orL, if_neg (by simp [h0])]
theorem orL_hit {l : List Int} {i : Nat} (h : i < l.length) (h0 : ¬ l[i] = 0) : orL (l.drop i) = l[i] := by
  rw [List.drop_eq_getElem_cons h, orL, if_pos h0]
theorem q102 (a : Option Addr) (c : Nat) (l : List Int) (w : World) (hr : Rd w a (iv l)) (hm : l.length ≤ 1000) : CallsTo Try.prog 102 [.slice a l.length c] w fun v w' => v = .int .i64 (orL l) ∧ Grew w w' := by
  refine go_in (n := 18) (St.rd1 hr) Try.func102 rfl rfl ?_
  repeat'(first|(apply kp;iterate 2 exact rfl)|apply jJ|(apply jE;exact rfl)|(apply jp;exact rfl)|(apply jc;kernel_rfl)|((first|apply kf|apply kn|apply ke|apply kx|apply kc|apply kb);iterate 2 exact rfl)|((first|apply kz|apply ky);(·exact rfl);(·repeat(first|exact iO|exact iR rfl|apply iT));iterate 2 exact rfl)|(apply kg;iterate 2 exact rfl)|(apply kG;iterate 3 exact rfl)|(apply kB;(iterate 2 exact rfl);intro _)|(apply kA;exact rfl;intro _)|(apply Go.Hb.kK;(iterate 4 exact rfl);intro _)|(apply kU;(iterate 2 exact rfl);(·repeat(first|exact sH _ _ _|apply sT));(first|exact nfL_eq rfl|exact rfl);exact rfl)|((first|apply kh|apply kl);(iterate 2 exact rfl);(first|decide|omega);exact rfl)|((first|(apply kR;iterate 2 exact rfl)|(apply kQ;exact rfl));all_goals(intro hc;try simp only[hcs]at hc;try(exfalso;first|contradiction|omega))))
  apply CW.loop [2, 5, 8, 9, 10, 11, 12, 13, 14, 15, 16] (fun i : Nat => i ≤ l.length ∧ orL l = orL (l.drop i)) (fun i : Nat => [(8, Value.int .i64 i)]) (fun i => St w NoF [rdA a (iv l)]) (fun i => l.length - i)
  · exact fun w' hw' => ⟨0, ⟨by omega, by simp⟩, ⟨rfl, trivial⟩, hw'⟩
  intro i g ⟨hi, heq⟩
  by_cases hlt : i < l.length
  · obtain ⟨ba, oa, rfl⟩ := hr.form (fun e => by have := congrArg List.length e; simp at this; subst this; simp at hlt)
    repeat'(first|(apply kp;iterate 2 exact rfl)|apply jJ|(apply jE;exact rfl)|(apply jp;exact rfl)|(apply jc;kernel_rfl)|((first|apply kf|apply kn|apply ke|apply kx|apply kc|apply kb);iterate 2 exact rfl)|((first|apply kz|apply ky);(·exact rfl);(·repeat(first|exact iO|exact iR rfl|apply iT));iterate 2 exact rfl)|(apply kg;iterate 2 exact rfl)|(apply kG;iterate 3 exact rfl)|(apply kB;(iterate 2 exact rfl);intro _)|(apply kA;exact rfl;intro _)|(apply Go.Hb.kK;(iterate 4 exact rfl);intro _)|(apply kU;(iterate 2 exact rfl);(·repeat(first|exact sH _ _ _|apply sT));(first|exact nfL_eq rfl|exact rfl);exact rfl)|((first|apply kh|apply kl);(iterate 2 exact rfl);(first|decide|omega);exact rfl)|(apply idxX;(iterate 2 exact rfl);(iterate 2(first|omega|(dsimp only;omega)));exact rfl)|(apply LR.ev; (· apply Ev.load_rd; (· exact rfl); (· repeat (first | exact mH _ _ | apply mT)); (· exact iv_at (i := i) (by simp) (by omega))); (· exact rfl))|(apply addX;(iterate 2 exact rfl);(iterate 2(first|omega|(dsimp only;omega)));exact rfl)|((first|(apply kR;iterate 2 exact rfl)|(apply kQ;exact rfl));all_goals(intro hc;try simp only[hcs]at hc;try(exfalso;first|contradiction|omega))))
    · (apply ret1; (· exact rfl); intro w' hS)
      refine ⟨congrArg (Value.int .i64) ?_, hS.toKeep⟩
      rw [heq, orL_hit hlt hc]
    · apply At.again (i + 1) ⟨by omega, by rw [heq]; exact orL_skip hlt hc⟩
      · (repeat (first | exact Out.refl _ _ | exact Out.mix | (apply Out.upd; (· exact rfl)) | (apply Out.updL; (· exact rfl)) | (apply Out.mixs; (· exact rfl))))
      · exact ⟨rfl, trivial⟩
      · exact fun w' hw' => hw'
      · omega
  · have hie : i = l.length := by omega
    subst hie
    repeat'(first|(apply kp;iterate 2 exact rfl)|apply jJ|(apply jE;exact rfl)|(apply jp;exact rfl)|(apply jc;kernel_rfl)|((first|apply kf|apply kn|apply ke|apply kx|apply kc|apply kb);iterate 2 exact rfl)|((first|apply kz|apply ky);(·exact rfl);(·repeat(first|exact iO|exact iR rfl|apply iT));iterate 2 exact rfl)|(apply kg;iterate 2 exact rfl)|(apply kG;iterate 3 exact rfl)|(apply kB;(iterate 2 exact rfl);intro _)|(apply kA;exact rfl;intro _)|(apply Go.Hb.kK;(iterate 4 exact rfl);intro _)|(apply kU;(iterate 2 exact rfl);(·repeat(first|exact sH _ _ _|apply sT));(first|exact nfL_eq rfl|exact rfl);exact rfl)|((first|apply kh|apply kl);(iterate 2 exact rfl);(first|decide|omega);exact rfl)|((first|(apply kR;iterate 2 exact rfl)|(apply kQ;exact rfl));all_goals(intro hc;try simp only[hcs]at hc;try(exfalso;first|contradiction|omega))))
    (apply ret1; (· exact rfl); intro w' hS)
    refine ⟨congrArg (Value.int .i64) ?_, hS.toKeep⟩
    rw [heq]
    simp [orL]
theorem q78 (s r s' r' : Int) (w : World) : CallsTo Try.prog 78 [.agg [.int .i64 s, .int .i64 r].toArray, .agg [.int .i64 s', .int .i64 r'].toArray] w fun v w' => v = .int .i64 (ringsI s r s' r') ∧ Grew w w' := by
  refine go_in (n := 17) (St.refl _ NoF) Try.func78 rfl rfl ?_
  repeat'(first|(apply CW.reg_heldC)|(apply kp;iterate 2 exact rfl)|apply jJ|(apply jE;exact rfl)|(apply jp;exact rfl)|(apply jc;kernel_rfl)|((first|apply kf|apply kn|apply ke|apply kx|apply kc|apply kb);iterate 2 exact rfl)|((first|apply kz|apply ky);(·exact rfl);(·repeat(first|exact iO|exact iR rfl|apply iT));iterate 2 exact rfl)|(apply kg;iterate 2 exact rfl)|(apply kG;iterate 3 exact rfl)|(apply kB;(iterate 2 exact rfl);intro _)|(apply kA;exact rfl;intro _)|(apply Go.Hb.kK;(iterate 4 exact rfl);intro _)|(apply kU;(iterate 2 exact rfl);(·repeat(first|exact sH _ _ _|apply sT));(first|exact nfL_eq rfl|exact rfl);exact rfl)|((first|apply kh|apply kl);(iterate 2 exact rfl);(first|decide|omega);exact rfl)|((first|(apply kR;iterate 2 exact rfl)|(apply kQ;exact rfl));all_goals(intro hc;try simp only[hcs]at hc;try(exfalso;first|contradiction|omega))))
  all_goals (
    apply DW.quiet [0, 1, 2, 3, 5, 6, 7, 8]
    · decide +kernel
    · first | exact fun _ h => h | exact fun _ h => St.sub h (by repeat (first | exact List.Sublist.refl _ | apply List.Sublist.cons_cons | apply List.Sublist.cons))
    repeat'(first|(apply yp;iterate 3 exact rfl)|(apply QL.ev;(·exact rfl);(·first|((first|apply Ez|apply Ey);(·exact rfl);(·repeat(first|exact iO|exact iR rfl|apply iT));exact rfl)|((first|apply Ev.fieldAddr|apply Ev.len|apply EqOf.eq|apply EqOf.ne|apply Ev.conv|apply Ev.buildN);exact rfl)|((first|apply Ev.shr|apply Ev.shl);(iterate 2 exact rfl);first|decide|omega));·exact rfl)|(apply yq;iterate 5 exact rfl)|(apply QL.evg;(iterate 3 exact rfl);(·first|((first|apply Ez|apply Ey);(·exact rfl);(·repeat(first|exact iO|exact iR rfl|apply iT));exact rfl)|((first|apply Ev.fieldAddr|apply Ev.len|apply EqOf.eq|apply EqOf.ne|apply Ev.conv|apply Ev.buildN);exact rfl)|((first|apply Ev.shr|apply Ev.shl);(iterate 2 exact rfl);first|decide|omega));·exact rfl)|(apply yn;iterate 4 exact rfl)|((apply QL.split;iterate 3 exact rfl);all_goals(intro hc;try simp only[hcs]at hc;try(exfalso;first|contradiction|omega)))|apply QL.nil)
    all_goals (show DW _ _ _ _ _ _ _ _))
  all_goals (
    apply DW.loud 4
    · exact rfl
    · decide +kernel
    repeat'(first|(apply kg;iterate 2 exact rfl)|(apply kG;iterate 3 exact rfl)|apply kM|(apply kp;iterate 2 exact rfl)|((first|apply kz|apply ky);(·exact rfl);(·repeat(first|exact iO|exact iR rfl|apply iT));iterate 2 exact rfl)|(apply Go.Hb.kK;(iterate 4 exact rfl);intro _)|(apply kU;(iterate 2 exact rfl);(·repeat(first|exact sH _ _ _|apply sT));(first|exact nfL_eq rfl|exact rfl);exact rfl)|(apply kB;(iterate 2 exact rfl);intro _)|(apply kA;exact rfl;intro _)|(apply kq;(·exact rfl);(·intro w1 h1;exact CallsTo.q (q103 _ _ w1) h1))|(apply kq; (· exact rfl); (· intro w1 h1; exact CallsTo.q (q102 (some ⟨_, 0, none⟩) 2 [cmpI s s', cmpI r r'] w1 (h1.rd_of_blk (by (repeat (first | exact mH _ _ | apply mT)))) (by simp)) h1)))
    all_goals (refine At.stage_same (fun _ h => St.sub h (by repeat (first | exact List.Sublist.refl _ | apply List.Sublist.cons_cons | apply List.Sublist.cons))) ?_))
  all_goals (
    apply DW.loud 9
    · exact rfl
    · decide +kernel
    repeat'(first|(apply kg;iterate 2 exact rfl)|(apply kG;iterate 3 exact rfl)|apply kM|(apply kp;iterate 2 exact rfl)|((first|apply kz|apply ky);(·exact rfl);(·repeat(first|exact iO|exact iR rfl|apply iT));iterate 2 exact rfl)|(apply Go.Hb.kK;(iterate 4 exact rfl);intro _)|(apply kU;(iterate 2 exact rfl);(·repeat(first|exact sH _ _ _|apply sT));(first|exact nfL_eq rfl|exact rfl);exact rfl)|(apply kB;(iterate 2 exact rfl);intro _)|(apply kA;exact rfl;intro _)|(apply kq;(·exact rfl);(·intro w1 h1;exact CallsTo.q (q103 _ _ w1) h1))|(apply kq; (· exact rfl); (· intro w1 h1; exact CallsTo.q (q102 (some ⟨_, 0, none⟩) 2 [cmpI s s', cmpI r r'] w1 (h1.rd_of_blk (by (repeat (first | exact mH _ _ | apply mT)))) (by simp)) h1)))
    all_goals (refine At.stage_same (fun _ h => St.sub h (by repeat (first | exact List.Sublist.refl _ | apply List.Sublist.cons_cons | apply List.Sublist.cons))) ?_))
  all_goals (
    apply DW.loud 10
    · exact rfl
    · decide +kernel
    repeat'(first|(apply kg;iterate 2 exact rfl)|(apply kG;iterate 3 exact rfl)|apply kM|(apply kp;iterate 2 exact rfl)|((first|apply kz|apply ky);(·exact rfl);(·repeat(first|exact iO|exact iR rfl|apply iT));iterate 2 exact rfl)|(apply Go.Hb.kK;(iterate 4 exact rfl);intro _)|(apply kU;(iterate 2 exact rfl);(·repeat(first|exact sH _ _ _|apply sT));(first|exact nfL_eq rfl|exact rfl);exact rfl)|(apply kB;(iterate 2 exact rfl);intro _)|(apply kA;exact rfl;intro _)|(apply kq;(·exact rfl);(·intro w1 h1;exact CallsTo.q (q103 _ _ w1) h1))|(apply kq; (· exact rfl); (· intro w1 h1; exact CallsTo.q (q102 (some ⟨_, 0, none⟩) 2 [cmpI s s', cmpI r r'] w1 (h1.rd_of_blk (by (repeat (first | exact mH _ _ | apply mT)))) (by simp)) h1)))
    all_goals (refine At.stage_same (fun _ h => St.sub h (by repeat (first | exact List.Sublist.refl _ | apply List.Sublist.cons_cons | apply List.Sublist.cons))) ?_))
  all_goals (
    apply DW.loud 11
    · exact rfl
    · decide +kernel
    repeat'(first|(apply kg;iterate 2 exact rfl)|(apply kG;iterate 3 exact rfl)|apply kM|(apply kp;iterate 2 exact rfl)|((first|apply kz|apply ky);(·exact rfl);(·repeat(first|exact iO|exact iR rfl|apply iT));iterate 2 exact rfl)|(apply Go.Hb.kK;(iterate 4 exact rfl);intro _)|(apply kU;(iterate 2 exact rfl);(·repeat(first|exact sH _ _ _|apply sT));(first|exact nfL_eq rfl|exact rfl);exact rfl)|(apply kB;(iterate 2 exact rfl);intro _)|(apply kA;exact rfl;intro _)|(apply kq;(·exact rfl);(·intro w1 h1;exact CallsTo.q (q103 _ _ w1) h1))|(apply kq; (· exact rfl); (· intro w1 h1; exact CallsTo.q (q102 (some ⟨_, 0, none⟩) 2 [cmpI s s', cmpI r r'] w1 (h1.rd_of_blk (by (repeat (first | exact mH _ _ | apply mT)))) (by simp)) h1)))
    all_goals (refine At.stage_same (fun _ h => St.sub h (by repeat (first | exact List.Sublist.refl _ | apply List.Sublist.cons_cons | apply List.Sublist.cons))) ?_))
  all_goals (
    apply DW.quiet [12]
    · decide +kernel
    · first | exact fun _ h => h | exact fun _ h => St.sub h (by repeat (first | exact List.Sublist.refl _ | apply List.Sublist.cons_cons | apply List.Sublist.cons))
    repeat'(first|(apply yp;iterate 3 exact rfl)|(apply QL.ev;(·exact rfl);(·first|((first|apply Ez|apply Ey);(·exact rfl);(·repeat(first|exact iO|exact iR rfl|apply iT));exact rfl)|((first|apply Ev.fieldAddr|apply Ev.len|apply EqOf.eq|apply EqOf.ne|apply Ev.conv|apply Ev.buildN);exact rfl)|((first|apply Ev.shr|apply Ev.shl);(iterate 2 exact rfl);first|decide|omega));·exact rfl)|(apply yq;iterate 5 exact rfl)|(apply QL.evg;(iterate 3 exact rfl);(·first|((first|apply Ez|apply Ey);(·exact rfl);(·repeat(first|exact iO|exact iR rfl|apply iT));exact rfl)|((first|apply Ev.fieldAddr|apply Ev.len|apply EqOf.eq|apply EqOf.ne|apply Ev.conv|apply Ev.buildN);exact rfl)|((first|apply Ev.shr|apply Ev.shl);(iterate 2 exact rfl);first|decide|omega));·exact rfl)|(apply yn;iterate 4 exact rfl)|((apply QL.split;iterate 3 exact rfl);all_goals(intro hc;try simp only[hcs]at hc;try(exfalso;first|contradiction|omega)))|apply QL.nil)
    all_goals (show DW _ _ _ _ _ _ _ _))
  all_goals (first | (apply DW.done_thn; (· decide +kernel)) | (apply DW.done; (· decide +kernel)))
  repeat'(first|(apply kp;iterate 2 exact rfl)|apply jJ|(apply jE;exact rfl)|(apply jp;exact rfl)|(apply jc;kernel_rfl)|((first|apply kf|apply kn|apply ke|apply kx|apply kc|apply kb);iterate 2 exact rfl)|((first|apply kz|apply ky);(·exact rfl);(·repeat(first|exact iO|exact iR rfl|apply iT));iterate 2 exact rfl)|(apply kg;iterate 2 exact rfl)|(apply kG;iterate 3 exact rfl)|(apply kB;(iterate 2 exact rfl);intro _)|(apply kA;exact rfl;intro _)|(apply Go.Hb.kK;(iterate 4 exact rfl);intro _)|(apply kU;(iterate 2 exact rfl);(·repeat(first|exact sH _ _ _|apply sT));(first|exact nfL_eq rfl|exact rfl);exact rfl)|((first|apply kh|apply kl);(iterate 2 exact rfl);(first|decide|omega);exact rfl)|((first|(apply kR;iterate 2 exact rfl)|(apply kQ;exact rfl));all_goals(intro hc;try simp only[hcs]at hc;try(exfalso;first|contradiction|omega))))
  (apply ret1; (· exact rfl); intro w' hS)
  exact ⟨rfl, hS.toKeep⟩
theorem q82 (s r s' r' : Int) (w : World) : CallsTo Try.prog 82 [.agg [.int .i64 s, .int .i64 r].toArray, .agg [.int .i64 s', .int .i64 r'].toArray] w fun v w' => v = .int .i64 (ringsI s r s' r') ∧ Grew w w' := by
  refine go_in (n := 20) (St.refl _ NoF) Try.func82 rfl rfl ?_
  repeat'(first|(apply kp;iterate 2 exact rfl)|apply jJ|(apply jE;exact rfl)|(apply jp;exact rfl)|(apply jc;kernel_rfl)|((first|apply kf|apply kn|apply ke|apply kx|apply kc|apply kb);iterate 2 exact rfl)|((first|apply kz|apply ky);(·exact rfl);(·repeat(first|exact iO|exact iR rfl|apply iT));iterate 2 exact rfl)|(apply kg;iterate 2 exact rfl)|(apply kG;iterate 3 exact rfl)|(apply kB;(iterate 2 exact rfl);intro _)|(apply kA;exact rfl;intro _)|(apply Go.Hb.kK;(iterate 4 exact rfl);intro _)|(apply kU;(iterate 2 exact rfl);(·repeat(first|exact sH _ _ _|apply sT));(first|exact nfL_eq rfl|exact rfl);exact rfl)|((first|apply kh|apply kl);(iterate 2 exact rfl);(first|decide|omega);exact rfl)|(apply kq;(·exact rfl);(·intro w1 h1;exact CallsTo.q (q107 _ _ w1) h1))|((first|(apply kR;iterate 2 exact rfl)|(apply kQ;exact rfl));all_goals(intro hc;try simp only[hcs]at hc;try(exfalso;first|contradiction|omega))))
  all_goals (
    (apply ret1; (· exact rfl); intro w' hS)
    refine ⟨congrArg (Value.int .i64) ?_, hS.toKeep⟩
    unfold ringsI orL cmpI
    simp only [orL]
    split <;> split <;> (try split) <;> omega)
/-! ### crews -/
theorem q61 (c : Int) (w : World) (hc : -9223372036854775808 ≤ c ∧ c ≤ 9223372036854775807) : CallsTo Try.prog 61 [.int .i64 c] w fun v w' => v = .int .i64 (if crewOk c then 0 else 2) ∧ Grew w w' := by
  refine go_in (n := 6) (St.refl _ NoF) Try.func61 rfl rfl ?_
  have hk := andNot_ok hc.1 hc.2
  repeat'(first|(apply kp;iterate 2 exact rfl)|apply jJ|(apply jE;exact rfl)|(apply jp;exact rfl)|(apply jc;kernel_rfl)|((first|apply kf|apply kn|apply ke|apply kx|apply kc|apply kb);iterate 2 exact rfl)|((first|apply kz|apply ky);(·exact rfl);(·repeat(first|exact iO|exact iR rfl|apply iT));iterate 2 exact rfl)|(apply kg;iterate 2 exact rfl)|(apply kG;iterate 3 exact rfl)|(apply kB;(iterate 2 exact rfl);intro _)|(apply kA;exact rfl;intro _)|(apply Go.Hb.kK;(iterate 4 exact rfl);intro _)|(apply kU;(iterate 2 exact rfl);(·repeat(first|exact sH _ _ _|apply sT));(first|exact nfL_eq rfl|exact rfl);exact rfl)|((first|apply kh|apply kl);(iterate 2 exact rfl);(first|decide|omega);exact rfl)|((first|(apply kR;iterate 2 exact rfl)|(apply kQ;exact rfl));all_goals(intro hc;try simp only[hcs]at hc;try(exfalso;first|contradiction|omega))))
  all_goals (
    (apply ret1; (· exact rfl); intro w' hS)
    refine ⟨congrArg (Value.int .i64) ?_, hS.toKeep⟩
    first
      | (rw [if_pos (hk.1 (by assumption))])
      | (rw [if_neg (fun h => absurd (hk.2 h) (by assumption))]))
theorem q23 (c n : Int) (w : World) : CallsTo Try.prog 23 [.int .i64 c, .int .i64 n] w fun v w' => v = .bool (hasC c n) ∧ Grew w w' := by
  refine go_in (n := 18) (St.refl _ NoF) Try.func23 rfl rfl ?_
  by_cases h : 0 < n ∧ n ≤ 8
  · obtain ⟨k, rfl⟩ : ∃ k : Nat, n = (k : Int) := ⟨n.toNat, by omega⟩
    have hk := shr_and c k (by omega)
    have hm : min (k : Int).toNat IntKind.i64.bits = k := by show min _ 64 = _; omega
    rw [← hm] at hk
    repeat'(first|(apply kp;iterate 2 exact rfl)|apply jJ|(apply jE;exact rfl)|(apply jp;exact rfl)|(apply jc;kernel_rfl)|((first|apply kf|apply kn|apply ke|apply kx|apply kc|apply kb);iterate 2 exact rfl)|((first|apply kz|apply ky);(·exact rfl);(·repeat(first|exact iO|exact iR rfl|apply iT));iterate 2 exact rfl)|(apply kg;iterate 2 exact rfl)|(apply kG;iterate 3 exact rfl)|(apply kB;(iterate 2 exact rfl);intro _)|(apply kA;exact rfl;intro _)|(apply Go.Hb.kK;(iterate 4 exact rfl);intro _)|(apply kU;(iterate 2 exact rfl);(·repeat(first|exact sH _ _ _|apply sT));(first|exact nfL_eq rfl|exact rfl);exact rfl)|((first|apply kh|apply kl);(iterate 2 exact rfl);(first|decide|omega);exact rfl)|((first|(apply kR;iterate 2 exact rfl)|(apply kQ;exact rfl));all_goals(intro hc;try simp only[hcs]at hc;try(exfalso;first|contradiction|omega))))
    all_goals (
      (apply ret1; (· exact rfl); intro w' hS)
      refine ⟨congrArg Value.bool ?_, hS.toKeep⟩
      unfold hasC
      rw [decide_eq_true h, Bool.true_and]
      rw [hm] at hk ⊢
      rw [Int.toNat_natCast]
      cases hx : tb c k with
      | true => rw [decide_eq_false (fun e => by rw [hk.1 e] at hx; cases hx)]; rfl
      | false => rw [decide_eq_true (hk.2 hx)]; rfl)
  · repeat'(first|(apply kp;iterate 2 exact rfl)|apply jJ|(apply jE;exact rfl)|(apply jp;exact rfl)|(apply jc;kernel_rfl)|((first|apply kf|apply kn|apply ke|apply kx|apply kc|apply kb);iterate 2 exact rfl)|((first|apply kz|apply ky);(·exact rfl);(·repeat(first|exact iO|exact iR rfl|apply iT));iterate 2 exact rfl)|(apply kg;iterate 2 exact rfl)|(apply kG;iterate 3 exact rfl)|(apply kB;(iterate 2 exact rfl);intro _)|(apply kA;exact rfl;intro _)|(apply Go.Hb.kK;(iterate 4 exact rfl);intro _)|(apply kU;(iterate 2 exact rfl);(·repeat(first|exact sH _ _ _|apply sT));(first|exact nfL_eq rfl|exact rfl);exact rfl)|((first|apply kh|apply kl);(iterate 2 exact rfl);(first|decide|omega);exact rfl)|((first|(apply kR;iterate 2 exact rfl)|(apply kQ;exact rfl));all_goals(intro hc;try simp only[hcs]at hc;try(exfalso;first|contradiction|omega))))
    all_goals (
      (apply ret1; (· exact rfl); intro w' hS)
      refine ⟨congrArg Value.bool ?_, hS.toKeep⟩
      unfold hasC
      rw [decide_eq_false h]
      rfl)
theorem q85 (k : Nat) (w : World) (hk : k ≤ 8) : CallsTo Try.prog 85 [.int .i64 (k : Int)] w fun v w' => v = .int .i64 (2 ^ k) ∧ Grew w w' := by
  refine go_in (n := 13) (St.refl _ NoF) Try.func85 rfl rfl ?_
  repeat'(first|(apply kp;iterate 2 exact rfl)|apply jJ|(apply jE;exact rfl)|(apply jp;exact rfl)|(apply jc;kernel_rfl)|((first|apply kf|apply kn|apply ke|apply kx|apply kc|apply kb);iterate 2 exact rfl)|((first|apply kz|apply ky);(·exact rfl);(·repeat(first|exact iO|exact iR rfl|apply iT));iterate 2 exact rfl)|(apply kg;iterate 2 exact rfl)|(apply kG;iterate 3 exact rfl)|(apply kB;(iterate 2 exact rfl);intro _)|(apply kA;exact rfl;intro _)|(apply Go.Hb.kK;(iterate 4 exact rfl);intro _)|(apply kU;(iterate 2 exact rfl);(·repeat(first|exact sH _ _ _|apply sT));(first|exact nfL_eq rfl|exact rfl);exact rfl)|((first|apply kh|apply kl);(iterate 2 exact rfl);(first|decide|omega);exact rfl)|((first|(apply kR;iterate 2 exact rfl)|(apply kQ;exact rfl));all_goals(intro hc;try simp only[hcs]at hc;try(exfalso;first|contradiction|omega))))
  apply CW.loop [3, 4, 5, 6, 7, 8, 9, 10, 11] (fun i : Nat => i ≤ k) (fun i : Nat => [(3, Value.int .i64 (2 ^ i)), (4, Value.int .i64 (i : Int))]) (fun _ => St w NoF []) (fun i => k - i)
  · exact fun w' hw' => ⟨0, by omega, ⟨rfl, rfl, trivial⟩, hw'⟩
  intro i g hi
  have hp : ∀ j : Nat, j ≤ 8 → (2 : Int) ^ j ≤ 256 := fun j hj => by
    have := low9 hj
    rcases this with rfl | rfl | rfl | rfl | rfl | rfl | rfl | rfl | rfl <;> decide
  have hp0 : (0 : Int) < 2 ^ i := Int.pow_pos (by decide)
  have hpi := hp i (by omega)
  by_cases hlt : i < k
  · repeat'(first|(apply kp;iterate 2 exact rfl)|apply jJ|(apply jE;exact rfl)|(apply jp;exact rfl)|(apply jc;kernel_rfl)|((first|apply kf|apply kn|apply ke|apply kx|apply kc|apply kb);iterate 2 exact rfl)|((first|apply kz|apply ky);(·exact rfl);(·repeat(first|exact iO|exact iR rfl|apply iT));iterate 2 exact rfl)|(apply kg;iterate 2 exact rfl)|(apply kG;iterate 3 exact rfl)|(apply kB;(iterate 2 exact rfl);intro _)|(apply kA;exact rfl;intro _)|(apply Go.Hb.kK;(iterate 4 exact rfl);intro _)|(apply kU;(iterate 2 exact rfl);(·repeat(first|exact sH _ _ _|apply sT));(first|exact nfL_eq rfl|exact rfl);exact rfl)|((first|apply kh|apply kl);(iterate 2 exact rfl);(first|decide|omega);exact rfl)|(apply mulX;(iterate 2 exact rfl);(iterate 2(first|omega|(dsimp only;omega)));exact rfl)|(apply addX;(iterate 2 exact rfl);(iterate 2(first|omega|(dsimp only;omega)));exact rfl)|((first|(apply kR;iterate 2 exact rfl)|(apply kQ;exact rfl));all_goals(intro hc;try simp only[hcs]at hc;try(exfalso;first|contradiction|omega))))
    refine At.again (i + 1) (by omega) ?_ ⟨?_, rfl, trivial⟩ (fun w' hw' => hw') (by omega)
    · (repeat (first | exact Out.refl _ _ | exact Out.mix | (apply Out.upd; (· exact rfl)) | (apply Out.updL; (· exact rfl)) | (apply Out.mixs; (· exact rfl))))
    · exact congrArg (Value.int .i64) (Int.pow_succ 2 i).symm
  · have hie : i = k := by omega
    subst hie
    repeat'(first|(apply kp;iterate 2 exact rfl)|apply jJ|(apply jE;exact rfl)|(apply jp;exact rfl)|(apply jc;kernel_rfl)|((first|apply kf|apply kn|apply ke|apply kx|apply kc|apply kb);iterate 2 exact rfl)|((first|apply kz|apply ky);(·exact rfl);(·repeat(first|exact iO|exact iR rfl|apply iT));iterate 2 exact rfl)|(apply kg;iterate 2 exact rfl)|(apply kG;iterate 3 exact rfl)|(apply kB;(iterate 2 exact rfl);intro _)|(apply kA;exact rfl;intro _)|(apply Go.Hb.kK;(iterate 4 exact rfl);intro _)|(apply kU;(iterate 2 exact rfl);(·repeat(first|exact sH _ _ _|apply sT));(first|exact nfL_eq rfl|exact rfl);exact rfl)|((first|apply kh|apply kl);(iterate 2 exact rfl);(first|decide|omega);exact rfl)|((first|(apply kR;iterate 2 exact rfl)|(apply kQ;exact rfl));all_goals(intro hc;try simp only[hcs]at hc;try(exfalso;first|contradiction|omega))))
    (apply ret1; (· exact rfl); intro w' hS)
    exact ⟨rfl, hS⟩
theorem q50 (c n : Int) (w : World) : CallsTo Try.prog 50 [.int .i64 c, .int .i64 n] w fun v w' => v = .bool (hasC c n) ∧ Grew w w' := by
  refine go_in (n := 18) (St.refl _ NoF) Try.func50 rfl rfl ?_
  by_cases h : 0 < n ∧ n ≤ 8
  · obtain ⟨k, rfl⟩ : ∃ k : Nat, n = (k : Int) := ⟨n.toNat, by omega⟩
    have hk := and_bit c k (by omega)
    repeat'(first|(apply kp;iterate 2 exact rfl)|apply jJ|(apply jE;exact rfl)|(apply jp;exact rfl)|(apply jc;kernel_rfl)|((first|apply kf|apply kn|apply ke|apply kx|apply kc|apply kb);iterate 2 exact rfl)|((first|apply kz|apply ky);(·exact rfl);(·repeat(first|exact iO|exact iR rfl|apply iT));iterate 2 exact rfl)|(apply kg;iterate 2 exact rfl)|(apply kG;iterate 3 exact rfl)|(apply kB;(iterate 2 exact rfl);intro _)|(apply kA;exact rfl;intro _)|(apply Go.Hb.kK;(iterate 4 exact rfl);intro _)|(apply kU;(iterate 2 exact rfl);(·repeat(first|exact sH _ _ _|apply sT));(first|exact nfL_eq rfl|exact rfl);exact rfl)|((first|apply kh|apply kl);(iterate 2 exact rfl);(first|decide|omega);exact rfl)|(apply kq; (· exact rfl); (· intro w1 h1; exact CallsTo.q (q85 k w1 (by omega)) h1))|((first|(apply kR;iterate 2 exact rfl)|(apply kQ;exact rfl));all_goals(intro hc;try simp only[hcs]at hc;try(exfalso;first|contradiction|omega))))
    all_goals (
      (apply ret1; (· exact rfl); intro w' hS)
      refine ⟨congrArg Value.bool ?_, hS.toKeep⟩
      unfold hasC
      rw [decide_eq_true h, Bool.true_and, Int.toNat_natCast]
      cases hx : tb c k with
      | true => rw [decide_eq_false (fun e => by rw [hk.1 e] at hx; cases hx)]; rfl
      | false => rw [decide_eq_true (hk.2 hx)]; rfl)
  · repeat'(first|(apply kp;iterate 2 exact rfl)|apply jJ|(apply jE;exact rfl)|(apply jp;exact rfl)|(apply jc;kernel_rfl)|((first|apply kf|apply kn|apply ke|apply kx|apply kc|apply kb);iterate 2 exact rfl)|((first|apply kz|apply ky);(·exact rfl);(·repeat(first|exact iO|exact iR rfl|apply iT));iterate 2 exact rfl)|(apply kg;iterate 2 exact rfl)|(apply kG;iterate 3 exact rfl)|(apply kB;(iterate 2 exact rfl);intro _)|(apply kA;exact rfl;intro _)|(apply Go.Hb.kK;(iterate 4 exact rfl);intro _)|(apply kU;(iterate 2 exact rfl);(·repeat(first|exact sH _ _ _|apply sT));(first|exact nfL_eq rfl|exact rfl);exact rfl)|((first|apply kh|apply kl);(iterate 2 exact rfl);(first|decide|omega);exact rfl)|((first|(apply kR;iterate 2 exact rfl)|(apply kQ;exact rfl));all_goals(intro hc;try simp only[hcs]at hc;try(exfalso;first|contradiction|omega))))
    all_goals (
      (apply ret1; (· exact rfl); intro w' hS)
      refine ⟨congrArg Value.bool ?_, hS.toKeep⟩
      unfold hasC
      rw [decide_eq_false h]
      rfl)
/-- The nodes of a crew. -/
def crewTo (c : Int) (k : Nat) : List Int := ((List.range k).map fun i : Nat => ((i + 1 : Nat) : Int)).filter (hasC c)
theorem crewTo_succ (c : Int) (k : Nat) : crewTo c (k + 1) = crewTo c k ++ if hasC c ((k + 1 : Nat) : Int) then [((k + 1 : Nat) : Int)] else [] := by
  unfold crewTo
  rw [List.range_succ, List.map_append, List.filter_append]
  congr 1
  show List.filter (hasC c) [((k + 1 : Nat) : Int)] = _
  rw [List.filter_cons]
  rfl
theorem crewTo_len (c : Int) (k : Nat) : (crewTo c k).length ≤ k := by
  unfold crewTo
  refine Nat.le_trans (List.length_filter_le _ _) ?_
  simp
theorem crewTo_mem {c : Int} {k : Nat} {x : Int} (h : x ∈ crewTo c k) : 1 ≤ x ∧ x ≤ k ∧ hasC c x = true := by
  unfold crewTo at h
  obtain ⟨h1, h2⟩ := List.mem_filter.1 h
  obtain ⟨i, hi, rfl⟩ := List.mem_map.1 h1
  rw [List.mem_range] at hi
  exact ⟨by omega, by omega, h2⟩
abbrev crewL (c : Int) : List Int := crewTo c 8
theorem q109 (c : Int) (w : World) : CallsTo Try.prog 109 [.int .i64 c] w fun v w' => ∃ a' c', v = .slice a' (crewL c).length c' ∧ NewSl w w' (.slice a' (crewL c).length c') 3 1 (crewL c).length (iv (crewL c)) := by
  refine go_in (n := 17) (St.refl _ NoF) Try.func109 rfl rfl ?_
  repeat'(first|(apply kp;iterate 2 exact rfl)|apply jJ|(apply jE;exact rfl)|(apply jp;exact rfl)|(apply jc;kernel_rfl)|((first|apply kf|apply kn|apply ke|apply kx|apply kc|apply kb);iterate 2 exact rfl)|((first|apply kz|apply ky);(·exact rfl);(·repeat(first|exact iO|exact iR rfl|apply iT));iterate 2 exact rfl)|(apply kg;iterate 2 exact rfl)|(apply kG;iterate 3 exact rfl)|(apply kB;(iterate 2 exact rfl);intro _)|(apply kA;exact rfl;intro _)|(apply Go.Hb.kK;(iterate 4 exact rfl);intro _)|(apply kU;(iterate 2 exact rfl);(·repeat(first|exact sH _ _ _|apply sT));(first|exact nfL_eq rfl|exact rfl);exact rfl)|((first|apply kh|apply kl);(iterate 2 exact rfl);(first|decide|omega);exact rfl)|((first|(apply kR;iterate 2 exact rfl)|(apply kQ;exact rfl));all_goals(intro hc;try simp only[hcs]at hc;try(exfalso;first|contradiction|omega))))
  apply CW.loop [3, 4, 5, 6, 7, 8, 9, 10, 11, 12, 13, 14, 15] (fun s : Gst => s.k ≤ 8) (fun s => [(3, .slice s.a (crewTo c s.k).length s.c), (4, .int .i64 ((s.k + 1 : Nat) : Int))])
    (fun s => St w NoF [il s.a s.c (crewTo c s.k)]) (fun s => 8 - s.k)
  · exact fun w' hw' => ⟨⟨0, none, 0⟩, by simp, ⟨rfl, rfl, trivial⟩, hw'.nilsl 3 1⟩
  rintro ⟨k, a2, c2⟩ g hk
  simp only at hk ⊢
  have hsu := crewTo_succ c k
  have hle := crewTo_len c k
  by_cases hlt : k < 8
  · cases hx : hasC c ((k + 1 : Nat) : Int)
    · rw [hx] at hsu
      simp only [Bool.false_eq_true, if_false, List.append_nil] at hsu
      repeat'(first|(apply kp;iterate 2 exact rfl)|apply jJ|(apply jE;exact rfl)|(apply jp;exact rfl)|(apply jc;kernel_rfl)|((first|apply kf|apply kn|apply ke|apply kx|apply kc|apply kb);iterate 2 exact rfl)|((first|apply kz|apply ky);(·exact rfl);(·repeat(first|exact iO|exact iR rfl|apply iT));iterate 2 exact rfl)|(apply kg;iterate 2 exact rfl)|(apply kG;iterate 3 exact rfl)|(apply kB;(iterate 2 exact rfl);intro _)|(apply kA;exact rfl;intro _)|(apply Go.Hb.kK;(iterate 4 exact rfl);intro _)|(apply kU;(iterate 2 exact rfl);(·repeat(first|exact sH _ _ _|apply sT));(first|exact nfL_eq rfl|exact rfl);exact rfl)|((first|apply kh|apply kl);(iterate 2 exact rfl);(first|decide|omega);exact rfl)|(apply kq; (· exact rfl); (· intro w1 h1; have hq := CallsTo.q (q50 c ((k + 1 : Nat) : Int) w1) h1; rw [hx] at hq; exact hq))|(apply addX;(iterate 2 exact rfl);(iterate 2(first|omega|(dsimp only;omega)));exact rfl)|((first|(apply kR;iterate 2 exact rfl)|(apply kQ;exact rfl));all_goals(intro hc;try simp only[hcs]at hc;try(exfalso;first|contradiction|omega))))
      refine At.again (⟨k + 1, a2, c2⟩ : Gst) (by simp only; omega) ?_ ⟨?_, ?_, trivial⟩ ?_ (by simp only; omega)
      · (repeat (first | exact Out.refl _ _ | exact Out.mix | (apply Out.upd; (· exact rfl)) | (apply Out.updL; (· exact rfl)) | (apply Out.mixs; (· exact rfl))))
      · simp only
        rw [hsu]
        rfl
      · exact congrArg (Value.int .i64) (by show ((k + 1 : Nat) : Int) + 1 = ((k + 1 + 1 : Nat) : Int); omega)
      · intro w' hw'
        simp only
        rw [hsu]
        exact hw'.sub (by (repeat (first | exact List.Sublist.refl _ | apply List.Sublist.cons_cons | apply List.Sublist.cons)))
    · rw [hx] at hsu
      simp only [if_true] at hsu
      generalize crewTo c k = L at hsu hle ⊢
      repeat'(first|(apply Go.Hb.kK;(iterate 4 exact rfl);intro bs)|(apply kp;iterate 2 exact rfl)|apply jJ|(apply jE;exact rfl)|(apply jp;exact rfl)|(apply jc;kernel_rfl)|((first|apply kf|apply kn|apply ke|apply kx|apply kc|apply kb);iterate 2 exact rfl)|((first|apply kz|apply ky);(·exact rfl);(·repeat(first|exact iO|exact iR rfl|apply iT));iterate 2 exact rfl)|(apply kg;iterate 2 exact rfl)|(apply kG;iterate 3 exact rfl)|(apply kB;(iterate 2 exact rfl);intro _)|(apply kA;exact rfl;intro _)|(apply Go.Hb.kK;(iterate 4 exact rfl);intro _)|(apply kU;(iterate 2 exact rfl);(·repeat(first|exact sH _ _ _|apply sT));(first|exact nfL_eq rfl|exact rfl);exact rfl)|((first|apply kh|apply kl);(iterate 2 exact rfl);(first|decide|omega);exact rfl)|(apply kq; (· exact rfl); (· intro w1 h1; have hq := CallsTo.q (q50 c ((k + 1 : Nat) : Int) w1) h1; rw [hx] at hq; exact hq))|(apply addX;(iterate 2 exact rfl);(iterate 2(first|omega|(dsimp only;omega)));exact rfl)|(apply LR.append (xs := iv L) (news := [Value.int .i64 ((k + 1 : Nat) : Int)]) (m := 1); (· exact rfl); (· exact rfl); (· intro a' c'; (repeat (first | exact sH _ _ _ | apply sT))); (· exact fun w' hw' => hw'.rd_of_blk (mH _ _)); (· exact fun hx => by cases hx); (· exact rfl); (· exact rfl); (· omega); (· unfold maxLen; omega); (· exact rfl); (intro a3 c3))|((first|(apply kR;iterate 2 exact rfl)|(apply kQ;exact rfl));all_goals(intro hc;try simp only[hcs]at hc;try(exfalso;first|contradiction|omega))))
      refine At.again (⟨k + 1, a3, c3⟩ : Gst) (by simp only; omega) ?_ ⟨?_, ?_, trivial⟩ ?_ (by simp only; omega)
      · (repeat (first | exact Out.refl _ _ | exact Out.mix | (apply Out.upd; (· exact rfl)) | (apply Out.updL; (· exact rfl)) | (apply Out.mixs; (· exact rfl))))
      · simp only
        rw [hsu]
        simp only [List.length_append, List.length_cons, List.length_nil]
        rfl
      · exact congrArg (Value.int .i64) (by show ((k + 1 : Nat) : Int) + 1 = ((k + 1 + 1 : Nat) : Int); omega)
      · intro w' hw'
        simp only
        rw [hsu]
        have e : il a3 c3 (L ++ [((k + 1 : Nat) : Int)]) = osl (.slice a3 (L.length + 1) c3) 3 1 (L.length + 1) (iv L ++ [Value.int .i64 ((k + 1 : Nat) : Int)]) := by simp [il, iv]
        rw [e]
        exact hw'.sub (by (repeat (first | exact List.Sublist.refl _ | apply List.Sublist.cons_cons | apply List.Sublist.cons)))
  · have hke : k = 8 := by omega
    subst hke
    repeat'(first|(apply kp;iterate 2 exact rfl)|apply jJ|(apply jE;exact rfl)|(apply jp;exact rfl)|(apply jc;kernel_rfl)|((first|apply kf|apply kn|apply ke|apply kx|apply kc|apply kb);iterate 2 exact rfl)|((first|apply kz|apply ky);(·exact rfl);(·repeat(first|exact iO|exact iR rfl|apply iT));iterate 2 exact rfl)|(apply kg;iterate 2 exact rfl)|(apply kG;iterate 3 exact rfl)|(apply kB;(iterate 2 exact rfl);intro _)|(apply kA;exact rfl;intro _)|(apply Go.Hb.kK;(iterate 4 exact rfl);intro _)|(apply kU;(iterate 2 exact rfl);(·repeat(first|exact sH _ _ _|apply sT));(first|exact nfL_eq rfl|exact rfl);exact rfl)|((first|apply kh|apply kl);(iterate 2 exact rfl);(first|decide|omega);exact rfl)|((first|(apply kR;iterate 2 exact rfl)|(apply kQ;exact rfl));all_goals(intro hc;try simp only[hcs]at hc;try(exfalso;first|contradiction|omega))))
    (apply ret1; (· exact rfl); intro w' hS)
    exact ⟨a2, c2, rfl, hS.toNew (by (repeat (first | exact mH _ _ | apply mT)))⟩
def sumL (l : List Int) : Int := l.foldl (fun s x => s + 2 ^ x.toNat) 0
theorem sumL_snoc (l : List Int) (x : Int) : sumL (l ++ [x]) = sumL l + 2 ^ x.toNat := by unfold sumL; rw [List.foldl_append]; rfl
theorem hasC_nat (c : Int) {k : Nat} (h : k + 1 ≤ 8) : hasC c ((k + 1 : Nat) : Int) = tb c (k + 1) := by
  unfold hasC
  rw [decide_eq_true (by omega), Bool.true_and, Int.toNat_natCast]
theorem sumL_crew (c : Int) : ∀ k, k ≤ 8 → sumL (crewTo c k) = sumTo c k
  | 0, _ => rfl
  | k + 1, h => by
    rw [crewTo_succ, hasC_nat c h]
    unfold sumTo
    rw [← sumL_crew c k (by omega)]
    split
    · rw [sumL_snoc, Int.toNat_natCast]
    · rw [List.append_nil]; omega
theorem crewTo_asc (c : Int) (k : Nat) : (crewTo c k).Pairwise (· < ·) := by
  unfold crewTo
  refine List.Pairwise.filter _ ?_
  rw [List.pairwise_map]
  exact List.pairwise_lt_range.imp (fun h => by omega)
theorem pow_lt' {a b : Nat} (h : a < b) : (2 : Int) ^ a + 2 ^ a ≤ 2 ^ b := by
  have h1 : (2 : Nat) ^ (a + 1) ≤ 2 ^ b := Nat.pow_le_pow_right (by decide) h
  have h2 : (2 : Nat) ^ (a + 1) = 2 ^ a * 2 := Nat.pow_succ 2 a
  have e1 : (2 : Int) ^ a = ((2 ^ a : Nat) : Int) := by simp
  have e2 : (2 : Int) ^ b = ((2 ^ b : Nat) : Int) := by simp
  omega
theorem hasC_small {S x : Int} (h0 : 0 ≤ S) (h1 : S < 2 ^ x.toNat) : hasC S x = false := by
  unfold hasC
  by_cases h : 0 < x ∧ x ≤ 8
  · rw [decide_eq_true h, Bool.true_and, tb_div S x.toNat (by omega), Int.fdiv_eq_ediv_of_nonneg S (Int.le_of_lt (Int.pow_pos (by decide))), Int.ediv_eq_zero_of_lt h0 h1]
    rfl
  · rw [decide_eq_false h]; rfl
set_option maxHeartbeats 1000000 in
theorem q108 (a : Option Addr) (c : Nat) (m : Int) (w : World) (hr : Rd w a (iv (crewL m))) : CallsTo Try.prog 108 [.slice a (crewL m).length c] w fun v w' => v = .tuple [.int .i64 (sumB m), .int .i64 0].toArray ∧ Grew w w' := by
  refine go_in (n := 39) (St.rd1 hr) Try.func108 rfl rfl ?_
  have hsum : sumL (crewL m) = sumB m := sumL_crew m 8 (by omega)
  have hlen : (crewL m).length ≤ 8 := crewTo_len m 8
  have hasc : (crewL m).Pairwise (· < ·) := crewTo_asc m 8
  have hmem : ∀ x ∈ crewL m, 1 ≤ x ∧ x ≤ 8 := fun x hx => by have := crewTo_mem hx; omega
  rw [← hsum]
  generalize crewL m = l at hr hlen hasc hmem ⊢
  repeat'(first|(apply kp;iterate 2 exact rfl)|apply jJ|(apply jE;exact rfl)|(apply jp;exact rfl)|(apply jc;kernel_rfl)|((first|apply kf|apply kn|apply ke|apply kx|apply kc|apply kb);iterate 2 exact rfl)|((first|apply kz|apply ky);(·exact rfl);(·repeat(first|exact iO|exact iR rfl|apply iT));iterate 2 exact rfl)|(apply kg;iterate 2 exact rfl)|(apply kG;iterate 3 exact rfl)|(apply kB;(iterate 2 exact rfl);intro _)|(apply kA;exact rfl;intro _)|(apply Go.Hb.kK;(iterate 4 exact rfl);intro _)|(apply kU;(iterate 2 exact rfl);(·repeat(first|exact sH _ _ _|apply sT));(first|exact nfL_eq rfl|exact rfl);exact rfl)|((first|apply kh|apply kl);(iterate 2 exact rfl);(first|decide|omega);exact rfl)|((first|(apply kR;iterate 2 exact rfl)|(apply kQ;exact rfl));all_goals(intro hc;try simp only[hcs]at hc;try(exfalso;first|contradiction|omega))))
  apply CW.loop [2, 3, 4, 5, 6, 7, 8, 9, 10, 11, 12, 13, 14, 15, 16, 17, 18, 19, 20, 21, 22, 23, 24, 25, 26, 27, 28, 29, 30, 31, 32, 33, 34, 35, 36, 37] (fun i : Nat => i ≤ l.length ∧ 0 ≤ sumL (l.take i) ∧ ∀ x ∈ l.drop i, sumL (l.take i) < 2 ^ x.toNat) (fun i : Nat => [(4, Value.int .i64 (sumL (l.take i))), (5, Value.int .i64 (i : Int))]) (fun _ => St w NoF [rdA a (iv l)]) (fun i => l.length - i)
  · exact fun w' hw' => ⟨0, ⟨by omega, Int.le_refl _, fun x hx => Int.pow_pos (by decide)⟩, ⟨rfl, rfl, trivial⟩, hw'⟩
  intro i g ⟨hi, hS0, hSx⟩
  by_cases hlt : i < l.length
  · obtain ⟨ba, oa, rfl⟩ := hr.form (fun e => by have := congrArg List.length e; simp only [iv_length, List.length_nil] at this; omega)
    obtain ⟨y, hy⟩ : ∃ y, l[i] = y := ⟨_, rfl⟩
    have hyb := hmem _ (List.getElem_mem hlt)
    have hyS := hSx l[i] (by rw [List.drop_eq_getElem_cons hlt]; exact List.mem_cons_self ..)
    have hno := hasC_small hS0 hyS
    have htk : sumL (l.take (i + 1)) = sumL (l.take i) + 2 ^ l[i].toNat := by
      rw [List.take_add_one, List.getElem?_eq_getElem hlt]
      exact sumL_snoc _ _
    have hdr : ∀ x ∈ l.drop (i + 1), l[i] < x := by
      have h1 := hasc.sublist (List.drop_sublist i l)
      rw [List.drop_eq_getElem_cons hlt, List.pairwise_cons] at h1
      exact h1.1
    have hp : (2 : Int) ^ l[i].toNat ≤ 256 := by
      have := low9 (n := l[i].toNat) (by omega)
      rcases this with e | e | e | e | e | e | e | e | e <;> rw [e] <;> decide
    have hp0 : (0 : Int) < 2 ^ l[i].toNat := Int.pow_pos (by decide)
    have hiv : (iv l)[i]? = some (.int .i64 (l[i].toNat : Int)) := by
      rw [iv_get hlt, Int.toNat_of_nonneg (by omega)]
    have hno' : hasC (sumL (l.take i)) (l[i].toNat : Int) = false := by rw [Int.toNat_of_nonneg (by omega)]; exact hno
    have hn8 : l[i].toNat ≤ 8 := by omega
    have hn1 : 1 ≤ l[i].toNat := by omega
    have hdr' : ∀ x ∈ l.drop (i + 1), (l[i].toNat : Int) < x := fun x hx => by have := hdr x hx; omega
    generalize l[i].toNat = k at *
    repeat'(first|(apply kp;iterate 2 exact rfl)|apply jJ|(apply jE;exact rfl)|(apply jp;exact rfl)|(apply jc;kernel_rfl)|((first|apply kf|apply kn|apply ke|apply kx|apply kc|apply kb);iterate 2 exact rfl)|((first|apply kz|apply ky);(·exact rfl);(·repeat(first|exact iO|exact iR rfl|apply iT));iterate 2 exact rfl)|(apply kg;iterate 2 exact rfl)|(apply kG;iterate 3 exact rfl)|(apply kB;(iterate 2 exact rfl);intro _)|(apply kA;exact rfl;intro _)|(apply Go.Hb.kK;(iterate 4 exact rfl);intro _)|(apply kU;(iterate 2 exact rfl);(·repeat(first|exact sH _ _ _|apply sT));(first|exact nfL_eq rfl|exact rfl);exact rfl)|((first|apply kh|apply kl);(iterate 2 exact rfl);(first|decide|omega);exact rfl)|(apply idxX;(iterate 2 exact rfl);(iterate 2(first|omega|(dsimp only;omega)));exact rfl)|(apply LR.ev; (· apply Ev.load_rd; (· exact rfl); (· repeat (first | exact mH _ _ | apply mT)); (· exact (by rw [show (i : Int).toNat * 1 = i by omega]; exact hiv))); (· exact rfl))|(apply addX;(iterate 2 exact rfl);(iterate 2(first|omega|(dsimp only;omega)));exact rfl)|(apply kq; (· exact rfl); (· intro w1 h1; first | (have hq := CallsTo.q (q50 (sumL (l.take i)) (k : Int) w1) h1; rw [hno'] at hq; exact hq) | exact CallsTo.q (q85 k w1 (by omega)) h1))|((first|(apply kR;iterate 2 exact rfl)|(apply kQ;exact rfl));all_goals(intro hc;try simp only[hcs]at hc;try(exfalso;first|contradiction|omega))))
    refine At.again (i + 1) ⟨by omega, by rw [htk]; omega, fun x hx => ?_⟩ ?_ ⟨?_, rfl, trivial⟩ (fun w' hw' => hw') (by omega)
    · have h1 := hdr' x hx
      have h2 := pow_lt' (a := k) (b := x.toNat) (by omega)
      rw [htk]
      omega
    · (repeat (first | exact Out.refl _ _ | exact Out.mix | (apply Out.upd; (· exact rfl)) | (apply Out.updL; (· exact rfl)) | (apply Out.mixs; (· exact rfl))))
    · rw [htk]; rfl
  · have hie : i = l.length := by omega
    subst hie
    rw [List.take_length] at hS0 hSx ⊢
    repeat'(first|(apply kp;iterate 2 exact rfl)|apply jJ|(apply jE;exact rfl)|(apply jp;exact rfl)|(apply jc;kernel_rfl)|((first|apply kf|apply kn|apply ke|apply kx|apply kc|apply kb);iterate 2 exact rfl)|((first|apply kz|apply ky);(·exact rfl);(·repeat(first|exact iO|exact iR rfl|apply iT));iterate 2 exact rfl)|(apply kg;iterate 2 exact rfl)|(apply kG;iterate 3 exact rfl)|(apply kB;(iterate 2 exact rfl);intro _)|(apply kA;exact rfl;intro _)|(apply Go.Hb.kK;(iterate 4 exact rfl);intro _)|(apply kU;(iterate 2 exact rfl);(·repeat(first|exact sH _ _ _|apply sT));(first|exact nfL_eq rfl|exact rfl);exact rfl)|((first|apply kh|apply kl);(iterate 2 exact rfl);(first|decide|omega);exact rfl)|((first|(apply kR;iterate 2 exact rfl)|(apply kQ;exact rfl));all_goals(intro hc;try simp only[hcs]at hc;try(exfalso;first|contradiction|omega))))
    (apply ret2; (· exact rfl); intro w' hS)
    exact ⟨rfl, hS.toKeep⟩
theorem q83 (c : Int) (w : World) : CallsTo Try.prog 83 [.int .i64 c] w fun v w' => v = .int .i64 (if crewOk c then 0 else 2) ∧ Grew w w' := by
  refine go_in (n := 14) (St.refl _ NoF) Try.func83 rfl rfl ?_
  have hk := sumB_ok c
  repeat'(first|(apply kp;iterate 2 exact rfl)|apply jJ|(apply jE;exact rfl)|(apply jp;exact rfl)|(apply jc;kernel_rfl)|((first|apply kf|apply kn|apply ke|apply kx|apply kc|apply kb);iterate 2 exact rfl)|((first|apply kz|apply ky);(·exact rfl);(·repeat(first|exact iO|exact iR rfl|apply iT));iterate 2 exact rfl)|(apply kg;iterate 2 exact rfl)|(apply kG;iterate 3 exact rfl)|(apply kB;(iterate 2 exact rfl);intro _)|(apply kA;exact rfl;intro _)|(apply Go.Hb.kK;(iterate 4 exact rfl);intro _)|(apply kU;(iterate 2 exact rfl);(·repeat(first|exact sH _ _ _|apply sT));(first|exact nfL_eq rfl|exact rfl);exact rfl)|((first|apply kh|apply kl);(iterate 2 exact rfl);(first|decide|omega);exact rfl)|((first|(apply kR;iterate 2 exact rfl)|(apply kQ;exact rfl));all_goals(intro hc;try simp only[hcs]at hc;try(exfalso;first|contradiction|omega))))
  apply LR.call
  · exact rfl
  intro w1 h1
  refine (q109 c w1).mono ?_
  rintro v w2 ⟨a1, c1, rfl, hn⟩
  refine LR.back (h1.newSl hn) ?_
  clear hn h1
  repeat'(first|(apply kp;iterate 2 exact rfl)|apply jJ|(apply jE;exact rfl)|(apply jp;exact rfl)|(apply jc;kernel_rfl)|((first|apply kf|apply kn|apply ke|apply kx|apply kc|apply kb);iterate 2 exact rfl)|((first|apply kz|apply ky);(·exact rfl);(·repeat(first|exact iO|exact iR rfl|apply iT));iterate 2 exact rfl)|(apply kg;iterate 2 exact rfl)|(apply kG;iterate 3 exact rfl)|(apply kB;(iterate 2 exact rfl);intro _)|(apply kA;exact rfl;intro _)|(apply Go.Hb.kK;(iterate 4 exact rfl);intro _)|(apply kU;(iterate 2 exact rfl);(·repeat(first|exact sH _ _ _|apply sT));(first|exact nfL_eq rfl|exact rfl);exact rfl)|((first|apply kh|apply kl);(iterate 2 exact rfl);(first|decide|omega);exact rfl)|(apply kq; (· exact rfl); (· intro w1 h1; exact CallsTo.q (q108 a1 c1 c w1 (h1.rd_of_own (by (repeat (first | exact mH _ _ | apply mT))))) h1))|((first|(apply kR;iterate 2 exact rfl)|(apply kQ;exact rfl));all_goals(intro hc;try simp only[hcs]at hc;try(exfalso;first|contradiction|omega))))
  all_goals (
    (apply ret1; (· exact rfl); intro w' hS)
    refine ⟨congrArg (Value.int .i64) ?_, hS.toKeep⟩
    first
      | (rw [if_pos (hk.1 (by assumption))])
      | (rw [if_neg (fun h => absurd (hk.2 h) (by assumption))]))
end Go.Proofs.Ytkolmkdbjagfcaa

namespace Go.Proofs.Ytkolmkdbjagfcaa
open Go.Hb
attribute [local irreducible] LR CW At Ev thn blk finK noG again CallsTo DW QL dnext TW DP
set_option linter.unusedSimpArgs false
set_option linter.unusedVariables false
set_option maxRecDepth 100000

theorem crew_all (a b : Int) : (crewL a).all (hasC b) = withinC a b := by
  unfold withinC
  rw [Bool.eq_iff_iff, List.all_eq_true, List.all_eq_true]
  constructor
  · intro h k hk
    rw [List.mem_range] at hk
    cases hx : tb a (k + 1) with
    | false => rfl
    | true =>
      have hm : ((k + 1 : Nat) : Int) ∈ crewL a := by
        unfold crewL crewTo
        rw [List.mem_filter]
        exact ⟨List.mem_map.2 ⟨k, List.mem_range.2 hk, rfl⟩, by rw [hasC_nat a (by omega)]; exact hx⟩
      have := h _ hm
      rw [hasC_nat b (by omega)] at this
      simpa using this
  · intro h x hx
    obtain ⟨h1, h2, h3⟩ := crewTo_mem hx
    obtain ⟨k, rfl⟩ : ∃ k : Nat, x = ((k + 1 : Nat) : Int) := ⟨(x - 1).toNat, by omega⟩
    rw [hasC_nat a (by omega)] at h3
    rw [hasC_nat b (by omega)]
    have := h k (List.mem_range.2 (by omega))
    rw [h3] at this
    simpa using this
theorem q84 (a b : Int) (w : World) : CallsTo Try.prog 84 [.int .i64 a, .int .i64 b] w fun v w' => v = .bool (withinC a b) ∧ Grew w w' := by
  refine go_in (n := 22) (St.refl _ NoF) Try.func84 rfl rfl ?_
  rw [← crew_all]
  repeat'(first|(apply kp;iterate 2 exact rfl)|apply jJ|(apply jE;exact rfl)|(apply jp;exact rfl)|(apply jc;kernel_rfl)|((first|apply kf|apply kn|apply ke|apply kx|apply kc|apply kb);iterate 2 exact rfl)|((first|apply kz|apply ky);(·exact rfl);(·repeat(first|exact iO|exact iR rfl|apply iT));iterate 2 exact rfl)|(apply kg;iterate 2 exact rfl)|(apply kG;iterate 3 exact rfl)|(apply kB;(iterate 2 exact rfl);intro _)|(apply kA;exact rfl;intro _)|(apply Go.Hb.kK;(iterate 4 exact rfl);intro _)|(apply kU;(iterate 2 exact rfl);(·repeat(first|exact sH _ _ _|apply sT));(first|exact nfL_eq rfl|exact rfl);exact rfl)|((first|apply kh|apply kl);(iterate 2 exact rfl);(first|decide|omega);exact rfl)|((first|(apply kR;iterate 2 exact rfl)|(apply kQ;exact rfl));all_goals(intro hc;try simp only[hcs]at hc;try(exfalso;first|contradiction|omega))))
  apply LR.call
  · exact rfl
  intro w1 h1
  refine (q109 a w1).mono ?_
  rintro v w2 ⟨a1, c1, rfl, hn⟩
  have hrl : Rd w2 a1 (iv (crewL a)) := ownsRow_rd hn.own
  refine LR.back (h1.newSl hn) ?_
  clear hn h1
  have hlen : (crewL a).length ≤ 8 := crewTo_len a 8
  change LR _ _ _ _ _ _ _ (St w NoF [il a1 c1 (crewL a)])
  generalize crewL a = l at hlen hrl ⊢
  repeat'(first|(apply kp;iterate 2 exact rfl)|apply jJ|(apply jE;exact rfl)|(apply jp;exact rfl)|(apply jc;kernel_rfl)|((first|apply kf|apply kn|apply ke|apply kx|apply kc|apply kb);iterate 2 exact rfl)|((first|apply kz|apply ky);(·exact rfl);(·repeat(first|exact iO|exact iR rfl|apply iT));iterate 2 exact rfl)|(apply kg;iterate 2 exact rfl)|(apply kG;iterate 3 exact rfl)|(apply kB;(iterate 2 exact rfl);intro _)|(apply kA;exact rfl;intro _)|(apply Go.Hb.kK;(iterate 4 exact rfl);intro _)|(apply kU;(iterate 2 exact rfl);(·repeat(first|exact sH _ _ _|apply sT));(first|exact nfL_eq rfl|exact rfl);exact rfl)|((first|apply kh|apply kl);(iterate 2 exact rfl);(first|decide|omega);exact rfl)|((first|(apply kR;iterate 2 exact rfl)|(apply kQ;exact rfl));all_goals(intro hc;try simp only[hcs]at hc;try(exfalso;first|contradiction|omega))))
  apply CW.loop [4, 6, 9, 10, 11, 12, 13, 14, 15, 16, 17, 18, 19, 20, 21] (fun i : Nat => i ≤ l.length ∧ ∀ x ∈ l.take i, hasC b x = true) (fun i : Nat => [(6, Value.int .i64 (i : Int))]) (fun _ => St w NoF [il a1 c1 l]) (fun i => l.length - i)
  · exact fun w' hw' => ⟨0, ⟨by omega, by simp⟩, ⟨rfl, trivial⟩, hw'⟩
  intro i g ⟨hi, hall⟩
  by_cases hlt : i < l.length
  · obtain ⟨bg, og, rfl⟩ := hrl.form (fun e => by have := congrArg List.length e; simp only [iv_length, List.length_nil] at this; omega)
    cases hx : hasC b l[i]
    · repeat'(first|(apply kp;iterate 2 exact rfl)|apply jJ|(apply jE;exact rfl)|(apply jp;exact rfl)|(apply jc;kernel_rfl)|((first|apply kf|apply kn|apply ke|apply kx|apply kc|apply kb);iterate 2 exact rfl)|((first|apply kz|apply ky);(·exact rfl);(·repeat(first|exact iO|exact iR rfl|apply iT));iterate 2 exact rfl)|(apply kg;iterate 2 exact rfl)|(apply kG;iterate 3 exact rfl)|(apply kB;(iterate 2 exact rfl);intro _)|(apply kA;exact rfl;intro _)|(apply Go.Hb.kK;(iterate 4 exact rfl);intro _)|(apply kU;(iterate 2 exact rfl);(·repeat(first|exact sH _ _ _|apply sT));(first|exact nfL_eq rfl|exact rfl);exact rfl)|((first|apply kh|apply kl);(iterate 2 exact rfl);(first|decide|omega);exact rfl)|(apply idxX;(iterate 2 exact rfl);(iterate 2(first|omega|(dsimp only;omega)));exact rfl)|(apply LR.ev; (· apply Ev.load_osl; (· exact rfl); (· (repeat (first | exact mH _ _ | apply mT))); (· exact iv_at (i := i) (by simp) (by omega))); (· exact rfl))|(apply kq; (· exact rfl); (· intro w1 h1; have hq := CallsTo.q (q50 b l[i] w1) h1; rw [hx] at hq; exact hq))|((first|(apply kR;iterate 2 exact rfl)|(apply kQ;exact rfl));all_goals(intro hc;try simp only[hcs]at hc;try(exfalso;first|contradiction|omega))))
      (apply ret1; (· exact rfl); intro w' hS)
      refine ⟨congrArg Value.bool ?_, hS.toKeep⟩
      rw [eq_comm, List.all_eq_false]
      exact ⟨_, List.getElem_mem hlt, by rw [hx]; simp⟩
    · repeat'(first|(apply kp;iterate 2 exact rfl)|apply jJ|(apply jE;exact rfl)|(apply jp;exact rfl)|(apply jc;kernel_rfl)|((first|apply kf|apply kn|apply ke|apply kx|apply kc|apply kb);iterate 2 exact rfl)|((first|apply kz|apply ky);(·exact rfl);(·repeat(first|exact iO|exact iR rfl|apply iT));iterate 2 exact rfl)|(apply kg;iterate 2 exact rfl)|(apply kG;iterate 3 exact rfl)|(apply kB;(iterate 2 exact rfl);intro _)|(apply kA;exact rfl;intro _)|(apply Go.Hb.kK;(iterate 4 exact rfl);intro _)|(apply kU;(iterate 2 exact rfl);(·repeat(first|exact sH _ _ _|apply sT));(first|exact nfL_eq rfl|exact rfl);exact rfl)|((first|apply kh|apply kl);(iterate 2 exact rfl);(first|decide|omega);exact rfl)|(apply idxX;(iterate 2 exact rfl);(iterate 2(first|omega|(dsimp only;omega)));exact rfl)|(apply addX;(iterate 2 exact rfl);(iterate 2(first|omega|(dsimp only;omega)));exact rfl)|(apply LR.ev; (· apply Ev.load_osl; (· exact rfl); (· (repeat (first | exact mH _ _ | apply mT))); (· exact iv_at (i := i) (by simp) (by omega))); (· exact rfl))|(apply kq; (· exact rfl); (· intro w1 h1; have hq := CallsTo.q (q50 b l[i] w1) h1; rw [hx] at hq; exact hq))|((first|(apply kR;iterate 2 exact rfl)|(apply kQ;exact rfl));all_goals(intro hc;try simp only[hcs]at hc;try(exfalso;first|contradiction|omega))))
      refine At.again (i + 1) ⟨by omega, fun x hxm => ?_⟩ ?_ ⟨rfl, trivial⟩ (fun w' hw' => hw') (by omega)
      · rw [take_snocI hlt] at hxm
        rcases List.mem_append.1 hxm with hxm | hxm
        · exact hall x hxm
        · rw [List.mem_singleton.1 hxm]; exact hx
      · (repeat (first | exact Out.refl _ _ | exact Out.mix | (apply Out.upd; (· exact rfl)) | (apply Out.updL; (· exact rfl)) | (apply Out.mixs; (· exact rfl))))
  · have hie : i = l.length := by omega
    subst hie
    rw [List.take_length] at hall
    repeat'(first|(apply kp;iterate 2 exact rfl)|apply jJ|(apply jE;exact rfl)|(apply jp;exact rfl)|(apply jc;kernel_rfl)|((first|apply kf|apply kn|apply ke|apply kx|apply kc|apply kb);iterate 2 exact rfl)|((first|apply kz|apply ky);(·exact rfl);(·repeat(first|exact iO|exact iR rfl|apply iT));iterate 2 exact rfl)|(apply kg;iterate 2 exact rfl)|(apply kG;iterate 3 exact rfl)|(apply kB;(iterate 2 exact rfl);intro _)|(apply kA;exact rfl;intro _)|(apply Go.Hb.kK;(iterate 4 exact rfl);intro _)|(apply kU;(iterate 2 exact rfl);(·repeat(first|exact sH _ _ _|apply sT));(first|exact nfL_eq rfl|exact rfl);exact rfl)|((first|apply kh|apply kl);(iterate 2 exact rfl);(first|decide|omega);exact rfl)|((first|(apply kR;iterate 2 exact rfl)|(apply kQ;exact rfl));all_goals(intro hc;try simp only[hcs]at hc;try(exfalso;first|contradiction|omega))))
    (apply ret1; (· exact rfl); intro w' hS)
    refine ⟨congrArg Value.bool ?_, hS.toKeep⟩
    rw [eq_comm, List.all_eq_true]
    exact hall
theorem cell_atC {w0 w : World} {F : Nat → Prop} {L : List Asrt} {b : Nat} {cs : List Value} {E : TypeId} {fr : Nat × Nat} {q i : Nat} {v : Value} (h : St w0 F L w) (hm : Asrt.own b (.cells cs.toArray E fr) ∈ L) (hq : q = i) (hv : cs[i]? = some v) : w.cell? ⟨b, q, none⟩ = some v := by
  subst hq
  rw [cell_own (show w.heap[b]? = some (.cells cs.toArray E fr) from h.holds _ hm)]
  simpa using hv
def liveR (s r : Int) : Bool := decide (¬ (s = 0 ∧ r = 0) ∧ ringE s r = 0)
theorem q77 (s r : Int) (w : World) : CallsTo Try.prog 77 [.agg [.int .i64 s, .int .i64 r].toArray] w fun v w' => v = .bool (liveR s r) ∧ Grew w w' := by
  refine go_in (n := 11) (St.refl _ NoF) Try.func77 rfl rfl ?_
  repeat'(first|(apply kp;iterate 2 exact rfl)|apply jJ|(apply jE;exact rfl)|(apply jp;exact rfl)|(apply jc;kernel_rfl)|((first|apply kf|apply kn|apply ke|apply kx|apply kc|apply kb);iterate 2 exact rfl)|((first|apply kz|apply ky);(·exact rfl);(·repeat(first|exact iO|exact iR rfl|apply iT));iterate 2 exact rfl)|(apply kg;iterate 2 exact rfl)|(apply kG;iterate 3 exact rfl)|(apply kB;(iterate 2 exact rfl);intro _)|(apply kA;exact rfl;intro _)|(apply Go.Hb.kK;(iterate 4 exact rfl);intro _)|(apply kU;(iterate 2 exact rfl);(·repeat(first|exact sH _ _ _|apply sT));(first|exact nfL_eq rfl|exact rfl);exact rfl)|((first|apply kh|apply kl);(iterate 2 exact rfl);(first|decide|omega);exact rfl)|(apply kq;(·exact rfl);(·intro w1 h1;exact CallsTo.q (c81 _ _ w1) h1))|((first|(apply kR;iterate 2 exact rfl)|(apply kQ;exact rfl));all_goals(intro hc;try simp only[hcs]at hc;try(exfalso;first|contradiction|omega))))
  all_goals (
    (apply ret1; (· exact rfl); intro w' hS)
    refine ⟨congrArg Value.bool ?_, hS.toKeep⟩
    unfold liveR
    first
      | exact decide_eq_decide.2 ⟨fun h => ⟨hc, h⟩, fun h => h.2⟩
      | exact (decide_eq_false (fun h => h.1 hc)).symm)
theorem q81 (s r : Int) (w : World) : CallsTo Try.prog 81 [.agg [.int .i64 s, .int .i64 r].toArray] w fun v w' => v = .bool (liveR s r) ∧ Grew w w' := by
  refine go_in (n := 11) (St.refl _ NoF) Try.func81 rfl rfl ?_
  repeat'(first|(apply kp;iterate 2 exact rfl)|apply jJ|(apply jE;exact rfl)|(apply jp;exact rfl)|(apply jc;kernel_rfl)|((first|apply kf|apply kn|apply ke|apply kx|apply kc|apply kb);iterate 2 exact rfl)|((first|apply kz|apply ky);(·exact rfl);(·repeat(first|exact iO|exact iR rfl|apply iT));iterate 2 exact rfl)|(apply kg;iterate 2 exact rfl)|(apply kG;iterate 3 exact rfl)|(apply kB;(iterate 2 exact rfl);intro _)|(apply kA;exact rfl;intro _)|(apply Go.Hb.kK;(iterate 4 exact rfl);intro _)|(apply kU;(iterate 2 exact rfl);(·repeat(first|exact sH _ _ _|apply sT));(first|exact nfL_eq rfl|exact rfl);exact rfl)|((first|apply kh|apply kl);(iterate 2 exact rfl);(first|decide|omega);exact rfl)|(apply kq;(·exact rfl);(·intro w1 h1;exact CallsTo.q (c97 _ _ w1) h1))|((first|(apply kR;iterate 2 exact rfl)|(apply kQ;exact rfl));all_goals(intro hc;try simp only[hcs]at hc;try(exfalso;first|contradiction|omega))))
  all_goals (
    (apply ret1; (· exact rfl); intro w' hS)
    refine ⟨congrArg Value.bool ?_, hS.toKeep⟩
    unfold liveR
    first
      | exact decide_eq_decide.2 ⟨fun h => ⟨hc, h⟩, fun h => h.2⟩
      | exact (decide_eq_false (fun h => h.1 hc)).symm)
def Cfg.cells (c : Cfg) : List Value := [.int .i64 c.rs, .int .i64 c.rr, .int .i64 c.os, .int .i64 c.or_, .int .i64 c.mem, .bool c.trans, .int .i64 c.stamp]
def Cfg.val (c : Cfg) : Value := .agg c.cells.toArray
structure OldC where
  cfg : Cfg
  done : Int
  safe : Int
def OldC.cells (o : OldC) : List Value := o.cfg.cells ++ [.int .i64 o.done, .int .i64 o.safe]
def OldC.val (o : OldC) : Value := .agg o.cells.toArray
def inI (x : Int) : Prop := -9223372036854775808 ≤ x ∧ x ≤ 9223372036854775807
/-- May it be? -/
def mayC (o : OldC) (kin : Int) (nx : Cfg) : Bool :=
  crewOk o.cfg.mem && crewOk nx.mem && crewOk kin && (liveR o.cfg.rs o.cfg.rr && liveR nx.rs nx.rr && decide (0 < ringsI nx.rs nx.rr o.cfg.rs o.cfg.rr)) && decide (0 ≤ o.done) && !decide (kin = 0) && withinC kin o.cfg.mem && withinC kin nx.mem
set_option maxHeartbeats 2000000 in
theorem q43 (o : OldC) (kin : Int) (nx : Cfg) (w : World) (h1 : inI o.cfg.mem) (h2 : inI nx.mem) (h3 : inI kin) : CallsTo Try.prog 43 [o.val, .int .i64 kin, nx.val] w fun v w' => v = .bool (mayC o kin nx) ∧ Grew w w' := by
  refine go_in (n := 69) (St.refl _ NoF) Try.func43 rfl rfl ?_
  repeat'(first|(apply kB;(iterate 2 exact rfl);intro _)|(apply Go.Hb.kK;(iterate 4 exact rfl);intro bs)|(apply kp;iterate 2 exact rfl)|apply jJ|(apply jE;exact rfl)|(apply jp;exact rfl)|(apply jc;kernel_rfl)|((first|apply kf|apply kn|apply ke|apply kx|apply kc|apply kb);iterate 2 exact rfl)|((first|apply kz|apply ky);(·exact rfl);(·repeat(first|exact iO|exact iR rfl|apply iT));iterate 2 exact rfl)|(apply kg;iterate 2 exact rfl)|(apply kG;iterate 3 exact rfl)|(apply kB;(iterate 2 exact rfl);intro _)|(apply kA;exact rfl;intro _)|(apply Go.Hb.kK;(iterate 4 exact rfl);intro _)|(apply kU;(iterate 2 exact rfl);(·repeat(first|exact sH _ _ _|apply sT));(first|exact nfL_eq rfl|exact rfl);exact rfl)|((first|apply kh|apply kl);(iterate 2 exact rfl);(first|decide|omega);exact rfl)|((first|(apply kR;iterate 2 exact rfl)|(apply kQ;exact rfl));all_goals(intro hc;try simp only[hcs]at hc;try(exfalso;first|contradiction|omega))))
  rename_i b3 b5
  obtain ⟨l, hl⟩ : ∃ l : List Int, [o.cfg.mem, nx.mem, kin] = l := ⟨_, rfl⟩
  have hl3 : l.length = 3 := by rw [← hl]; rfl
  have hlI : ∀ x ∈ l, inI x := fun x hx => by
    rw [← hl] at hx
    simp only [List.mem_cons, List.not_mem_nil, or_false] at hx
    rcases hx with rfl | rfl | rfl
    · exact h1
    · exact h2
    · exact h3
  have hcrew : ∀ b : Bool, (l.all crewOk = b) → (crewOk o.cfg.mem && crewOk nx.mem && crewOk kin) = b := fun b hb => by
    rw [← hb, ← hl]
    simp [Bool.and_assoc]
  apply CW.loop [6, 8, 18, 19, 20, 21, 22, 23, 24, 25] (fun i : Nat => i ≤ 3 ∧ ∀ x ∈ l.take i, crewOk x = true) (fun i : Nat => [(18, Value.int .i64 (i : Int))]) (fun _ => St w NoF [.own bs (.cells (iv l).toArray 3 (0, 0)), .own b5 (.cells nx.cells.toArray 25 (0, 0)), .own b3 (.cells o.cells.toArray 27 (0, 0))]) (fun i => 3 - i)
  · intro w' hw'
    subst hl
    exact ⟨0, ⟨by omega, by simp⟩, ⟨rfl, trivial⟩, hw'⟩
  intro i g ⟨hi, hall⟩
  by_cases hlt : i < 3
  · have hi3 : i < l.length := by omega
    have hx := hlI l[i] (List.getElem_mem hi3)
    repeat'(first|(apply kp;iterate 2 exact rfl)|apply jJ|(apply jE;exact rfl)|(apply jp;exact rfl)|(apply jc;kernel_rfl)|((first|apply kf|apply kn|apply ke|apply kx|apply kc|apply kb);iterate 2 exact rfl)|((first|apply kz|apply ky);(·exact rfl);(·repeat(first|exact iO|exact iR rfl|apply iT));iterate 2 exact rfl)|(apply kg;iterate 2 exact rfl)|(apply kG;iterate 3 exact rfl)|(apply kB;(iterate 2 exact rfl);intro _)|(apply kA;exact rfl;intro _)|(apply Go.Hb.kK;(iterate 4 exact rfl);intro _)|(apply kU;(iterate 2 exact rfl);(·repeat(first|exact sH _ _ _|apply sT));(first|exact nfL_eq rfl|exact rfl);exact rfl)|((first|apply kh|apply kl);(iterate 2 exact rfl);(first|decide|omega);exact rfl)|(apply idxX;(iterate 2 exact rfl);(iterate 2(first|omega|(dsimp only;omega)));exact rfl)|(apply addX;(iterate 2 exact rfl);(iterate 2(first|omega|(dsimp only;omega)));exact rfl)|(apply LR.ev; (· apply Ev.load; (· exact rfl); (· intro w' hw'; exact cell_atC (b := bs) (cs := iv l) (i := i) hw' (by (repeat (first | exact mH _ _ | apply mT))) (by omega) (iv_at (i := i) rfl hi3))); (· exact rfl))|(apply kq; (· exact rfl); (· intro w1 h1; show CallsTo Try.prog 61 [.int .i64 l[i]] w1 _; exact CallsTo.q (q61 l[i] w1 hx) h1))|((first|(apply kR;iterate 2 exact rfl)|(apply kQ;exact rfl));all_goals(intro hc;try simp only[hcs]at hc;try(exfalso;first|contradiction|omega))))
    · (apply ret1; (· exact rfl); intro w' hS)
      refine ⟨congrArg Value.bool ?_, hS.toKeep⟩
      have hno : crewOk l[i] = false := by
        cases hx2 : crewOk l[i] with
        | false => rfl
        | true => exfalso; rename_i hc; rw [hx2] at hc; revert hc; decide
      have hf : l.all crewOk = false := by
        rw [List.all_eq_false]
        exact ⟨_, List.getElem_mem hi3, by rw [hno]; simp⟩
      unfold mayC
      rw [hcrew false hf]
      rfl
    · have hyes : crewOk l[i] = true := by
        cases hx2 : crewOk l[i] with
        | true => rfl
        | false => exfalso; rename_i hc; rw [hx2] at hc; revert hc; decide
      refine At.again (i + 1) ⟨by omega, fun x hxm => ?_⟩ ?_ ⟨rfl, trivial⟩ (fun w' hw' => hw') (by omega)
      · rw [take_snocI hi3] at hxm
        rcases List.mem_append.1 hxm with hxm | hxm
        · exact hall x hxm
        · rw [List.mem_singleton.1 hxm]; exact hyes
      · (repeat (first | exact Out.refl _ _ | exact Out.mix | (apply Out.upd; (· exact rfl)) | (apply Out.updL; (· exact rfl)) | (apply Out.mixs; (· exact rfl))))
  · have hie : i = 3 := by omega
    subst hie
    have hallT : l.all crewOk = true := by
      rw [List.all_eq_true]
      intro x hx
      exact hall x (by rw [List.take_of_length_le (by omega)]; exact hx)
    have hm : mayC o kin nx = ((liveR o.cfg.rs o.cfg.rr && liveR nx.rs nx.rr && decide (0 < ringsI nx.rs nx.rr o.cfg.rs o.cfg.rr)) && decide (0 ≤ o.done) && !decide (kin = 0) && withinC kin o.cfg.mem && withinC kin nx.mem) := by
      unfold mayC
      rw [hcrew true hallT]
      simp
    have hkk : crewOk kin = true := by
      have := List.all_eq_true.1 hallT kin (by rw [← hl]; simp)
      exact this
    have hw1 := andNot_within (b := o.cfg.mem) hkk
    have hw2 := andNot_within (b := nx.mem) hkk
    rw [hm]
    clear hm hcrew
    repeat'(first|(apply kp;iterate 2 exact rfl)|apply jJ|(apply jE;exact rfl)|(apply jp;exact rfl)|(apply jc;kernel_rfl)|((first|apply kf|apply kn|apply ke|apply kx|apply kc|apply kb);iterate 2 exact rfl)|((first|apply kz|apply ky);(·exact rfl);(·repeat(first|exact iO|exact iR rfl|apply iT));iterate 2 exact rfl)|(apply kg;iterate 2 exact rfl)|(apply kG;iterate 3 exact rfl)|(apply kB;(iterate 2 exact rfl);intro _)|(apply kA;exact rfl;intro _)|(apply Go.Hb.kK;(iterate 4 exact rfl);intro _)|(apply kU;(iterate 2 exact rfl);(·repeat(first|exact sH _ _ _|apply sT));(first|exact nfL_eq rfl|exact rfl);exact rfl)|((first|apply kh|apply kl);(iterate 2 exact rfl);(first|decide|omega);exact rfl)|(apply kq; (· exact rfl); (· intro w1 h1; first | exact CallsTo.q (q77 o.cfg.rs o.cfg.rr w1) h1 | exact CallsTo.q (q77 nx.rs nx.rr w1) h1 | exact CallsTo.q (q78 nx.rs nx.rr o.cfg.rs o.cfg.rr w1) h1))|((first|(apply kR;iterate 2 exact rfl)|(apply kQ;exact rfl));all_goals(intro hc;try simp only[hcs]at hc;try(exfalso;first|contradiction|omega))))
    all_goals (
      (apply ret1; (· exact rfl); intro w' hS)
      refine ⟨congrArg Value.bool ?_, hS.toKeep⟩
      clear hS hall hlI hallT hl h1 h2 h3 hkk
      rw [Bool.eq_iff_iff]
      simp only [Bool.and_eq_true, Bool.not_eq_true', decide_eq_true_eq, decide_eq_false_iff_not, ← hw1, ← hw2]
      first
        | (simp_all; done)
        | (constructor
           · intro hq
             exact absurd hq (by simp)
           · intro hq
             exfalso
             obtain ⟨⟨⟨⟨⟨hq1, hq2⟩, hq3⟩, hq4⟩, hq5⟩, hq6⟩ := hq
             omega))
end Go.Proofs.Ytkolmkdbjagfcaa

namespace Go.Proofs.Ytkolmkdbjagfcaa
open Go.Hb
attribute [local irreducible] LR CW At Ev thn blk finK noG again CallsTo DW QL dnext TW DP
set_option linter.unusedSimpArgs false
set_option linter.unusedVariables false
set_option maxRecDepth 100000

set_option maxHeartbeats 2000000 in
theorem q47 (o : OldC) (kin : Int) (nx : Cfg) (w : World) : CallsTo Try.prog 47 [o.val, .int .i64 kin, nx.val] w fun v w' => v = .bool (mayC o kin nx) ∧ Grew w w' := by
  refine go_in (n := 63) (St.refl _ NoF) Try.func47 rfl rfl ?_
  have e1 : ∀ c : Int, (if crewOk c = true then (0 : Int) else 2) = 0 ↔ crewOk c = true := fun c => by cases crewOk c <;> simp
  have hm : mayC o kin nx = (crewOk o.cfg.mem && crewOk nx.mem && crewOk kin && (liveR o.cfg.rs o.cfg.rr && liveR nx.rs nx.rr && decide (0 < ringsI nx.rs nx.rr o.cfg.rs o.cfg.rr)) && decide (0 ≤ o.done) && !decide (kin = 0) && withinC kin o.cfg.mem && withinC kin nx.mem) := rfl
  rw [hm]
  clear hm
  repeat'(first|(apply kp;iterate 2 exact rfl)|apply jJ|(apply jE;exact rfl)|(apply jp;exact rfl)|(apply jc;kernel_rfl)|((first|apply kf|apply kn|apply ke|apply kx|apply kc|apply kb);iterate 2 exact rfl)|((first|apply kz|apply ky);(·exact rfl);(·repeat(first|exact iO|exact iR rfl|apply iT));iterate 2 exact rfl)|(apply kg;iterate 2 exact rfl)|(apply kG;iterate 3 exact rfl)|(apply kB;(iterate 2 exact rfl);intro _)|(apply kA;exact rfl;intro _)|(apply Go.Hb.kK;(iterate 4 exact rfl);intro _)|(apply kU;(iterate 2 exact rfl);(·repeat(first|exact sH _ _ _|apply sT));(first|exact nfL_eq rfl|exact rfl);exact rfl)|((first|apply kh|apply kl);(iterate 2 exact rfl);(first|decide|omega);exact rfl)|(apply kq; (· exact rfl); (· intro w1 h1; first | exact CallsTo.q (q81 o.cfg.rs o.cfg.rr w1) h1 | exact CallsTo.q (q81 nx.rs nx.rr w1) h1 | exact CallsTo.q (q82 nx.rs nx.rr o.cfg.rs o.cfg.rr w1) h1 | exact CallsTo.q (q83 o.cfg.mem w1) h1 | exact CallsTo.q (q83 nx.mem w1) h1 | exact CallsTo.q (q83 kin w1) h1 | exact CallsTo.q (q84 kin o.cfg.mem w1) h1 | exact CallsTo.q (q84 kin nx.mem w1) h1))|((first|(apply kR;iterate 2 exact rfl)|(apply kQ;exact rfl));all_goals(intro hc;try simp only[hcs]at hc;try(exfalso;first|contradiction|omega))))
  all_goals (
    (apply ret1; (· exact rfl); intro w' hS)
    refine ⟨congrArg Value.bool ?_, hS.toKeep⟩
    clear hS
    try simp only [e1] at *
    rw [Bool.eq_iff_iff]
    simp only [Bool.and_eq_true, Bool.not_eq_true', decide_eq_true_eq, decide_eq_false_iff_not]
    first
      | (simp_all; done)
      | (constructor
         · intro hq
           exact absurd hq (by simp)
         · intro hq
           exfalso
           obtain ⟨⟨⟨⟨⟨hq1, hq2⟩, hq3⟩, hq4⟩, hq5⟩, hq6⟩ := hq
           omega))
end Go.Proofs.Ytkolmkdbjagfcaa

namespace Go.Proofs.Ytkolmkdbjagfcaa
open Go.Hb
attribute [local irreducible] LR CW At Ev thn blk finK noG again CallsTo DW QL dnext TW DP
set_option linter.unusedSimpArgs false
set_option linter.unusedVariables false
set_option maxRecDepth 100000

structure EvA where
  kind : Int
  cfg : Cfg
  x : DaA
def EvA.row (e : EvA) : List Value := .int .i64 e.kind :: (e.cfg.cells ++ e.x.row)
theorem EvA.row_len (e : EvA) : e.row.length = 26 := rfl
def EvA.e (e : EvA) : EvD := ⟨e.kind, e.cfg, e.x.d⟩
def EvA.body (e : EvA) : Asrt := e.x.body
theorem EvA.dep (e : EvA) : e.body.dep := osl.dep _ _ _ _ _
theorem EvA.ex (e : EvA) : e.body.excl = true := rfl
abbrev bunE : List EvA → Asrt := bun EvA.body
abbrev eS (a : Option Addr) (c : Nat) (l : List EvA) : Asrt := osl (.slice a l.length c) 52 26 l.length (l.flatMap EvA.row)
theorem eS_snoc (a : Option Addr) (c : Nat) (l : List EvA) (x : EvA) : osl (.slice a (l.length + 1) c) 52 26 (l.length + 1) (l.flatMap EvA.row ++ x.row) = eS a c (l ++ [x]) := by simp [eS]
theorem ev_one (e : EvA) : e.row.all Value.oneCell' = true := by simp [EvA.row, Cfg.cells, DaA.row, Dat.cells, Msg.cells, Value.oneCell']
def zeroA : DaA := ⟨zeroDat, none, 0⟩
def cfgA (c : Cfg) : EvA := ⟨1, c, zeroA⟩
def msgA (x : DaA) : EvA := ⟨2, zeroCfg, x⟩
def tellA (x : DaA) : List EvA := if x.d.msg.kind = 5 then [] else [msgA x]
theorem tellA_e (x : DaA) : (tellA x).map EvA.e = tellD x.d := by
  unfold tellA tellD
  split <;> rfl
/-- A list that is told to. -/
abbrev tB (b : Nat) (a : Option Addr) (c n : Nat) : Asrt := .own b (.cells [.slice a n c].toArray 103 (0, 0))
def tO (b : Nat) (a : Option Addr) (c : Nat) (l : List EvA) : Asrt := both (tB b a c l.length) (eS a c l)
theorem tO_dep (b : Nat) (a : Option Addr) (c : Nat) (l : List EvA) : (tO b a c l).dep := both_dep (Asrt.dep_own _ _) (osl.dep _ _ _ _ _)
theorem tO_turn {b : Nat} {a : Option Addr} {c : Nat} {l : List EvA} {w : World} (h : (tO b a c l).holds w) : St w (tO b a c l).foot [tB b a c l.length, eS a c l] w :=
  (St.one h (both_live h) (tO_dep _ _ _ _)).part (Asrt.dep_own _ _) (osl.dep _ _ _ _ _)
set_option maxHeartbeats 1000000 in
theorem q45 (b : Nat) (a : Option Addr) (c : Nat) (l : List EvA) (g : Cfg) (w : World) (h : (tO b a c l).holds w) (hl : l.length ≤ 100000) :
    CallsTo Try.prog 45 [.pointer (some ⟨b, 0, none⟩), g.val] w fun v w' => ∃ a' c', v = .tuple #[] ∧ Step (tO b a c l) (tO b a' c' (l ++ [cfgA g])) w w' := by
  refine go_in (n := 13) (tO_turn h) Try.func45 rfl rfl ?_
  repeat'(first|(apply kB;(iterate 2 exact rfl);intro b3)|(apply CW.reg_sink 9 (St w (tO b a c l).foot [.own b3 (.cells g.cells.toArray 25 (0, 0)), tB b a c l.length]); (· exact rfl); (· decide +kernel))|(apply kp;iterate 2 exact rfl)|apply jJ|(apply jE;exact rfl)|(apply jp;exact rfl)|(apply jc;kernel_rfl)|((first|apply kf|apply kn|apply ke|apply kx|apply kc|apply kb);iterate 2 exact rfl)|((first|apply kz|apply ky);(·exact rfl);(·repeat(first|exact iO|exact iR rfl|apply iT));iterate 2 exact rfl)|(apply kg;iterate 2 exact rfl)|(apply kG;iterate 3 exact rfl)|(apply kB;(iterate 2 exact rfl);intro _)|(apply kA;exact rfl;intro _)|(apply Go.Hb.kK;(iterate 4 exact rfl);intro _)|(apply kU;(iterate 2 exact rfl);(·repeat(first|exact sH _ _ _|apply sT));(first|exact nfL_eq rfl|exact rfl);exact rfl)|((first|apply kh|apply kl);(iterate 2 exact rfl);(first|decide|omega);exact rfl)|((first|(apply kR;iterate 2 exact rfl)|(apply kQ;exact rfl));all_goals(intro hc;try simp only[hcs]at hc;try(exfalso;first|contradiction|omega))))
  generalize hF : (tO b a c l).foot = F at *
  all_goals (
    apply DW.quiet [0, 1, 2, 3, 4, 5]
    · decide +kernel
    · first | exact fun _ h => h | exact fun _ h => St.sub h (by repeat (first | exact List.Sublist.refl _ | apply List.Sublist.cons_cons | apply List.Sublist.cons))
    repeat'(first|(apply yp;iterate 3 exact rfl)|(apply QL.ev;(·exact rfl);(·first|((first|apply Ez|apply Ey);(·exact rfl);(·repeat(first|exact iO|exact iR rfl|apply iT));exact rfl)|((first|apply Ev.fieldAddr|apply Ev.len|apply EqOf.eq|apply EqOf.ne|apply Ev.conv|apply Ev.buildN);exact rfl)|((first|apply Ev.shr|apply Ev.shl);(iterate 2 exact rfl);first|decide|omega));·exact rfl)|(apply yq;iterate 5 exact rfl)|(apply QL.evg;(iterate 3 exact rfl);(·first|((first|apply Ez|apply Ey);(·exact rfl);(·repeat(first|exact iO|exact iR rfl|apply iT));exact rfl)|((first|apply Ev.fieldAddr|apply Ev.len|apply EqOf.eq|apply EqOf.ne|apply Ev.conv|apply Ev.buildN);exact rfl)|((first|apply Ev.shr|apply Ev.shl);(iterate 2 exact rfl);first|decide|omega));·exact rfl)|(apply yn;iterate 4 exact rfl)|((apply QL.split;iterate 3 exact rfl);all_goals(intro hc;try simp only[hcs]at hc;try(exfalso;first|contradiction|omega)))|apply QL.nil)
    all_goals (show DW _ _ _ _ _ _ _ _))
  all_goals (
    apply DW.loud 6
    · exact rfl
    · decide +kernel
    repeat'(first|(apply kg;iterate 2 exact rfl)|(apply kG;iterate 3 exact rfl)|apply kM|(apply kp;iterate 2 exact rfl)|((first|apply kz|apply ky);(·exact rfl);(·repeat(first|exact iO|exact iR rfl|apply iT));iterate 2 exact rfl)|(apply Go.Hb.kK;(iterate 4 exact rfl);intro _)|(apply kU;(iterate 2 exact rfl);(·repeat(first|exact sH _ _ _|apply sT));(first|exact nfL_eq rfl|exact rfl);exact rfl)|(apply kB;(iterate 2 exact rfl);intro _)|(apply kA;exact rfl;intro _)|(apply LR.append (xs := l.flatMap EvA.row) (news := (cfgA g).row) (m := 1); (· exact rfl); (· exact rfl); (· intro a' c'; (repeat (first | exact sH _ _ _ | apply sT))); (· exact fun w' hw' => hw'.rd_of_blk (mH _ _)); (· exact fun hx => by cases hx); (· exact rfl); (· exact ev_one _); (· omega); (· unfold maxLen; omega); (· exact rfl); (intro a4 c4)))
    all_goals (refine At.stage_same (fun _ h => St.sub h (by repeat (first | exact List.Sublist.refl _ | apply List.Sublist.cons_cons | apply List.Sublist.cons))) ?_))
  all_goals (
    apply DW.loud 7
    · exact rfl
    · decide +kernel
    repeat'(first|(apply kg;iterate 2 exact rfl)|(apply kG;iterate 3 exact rfl)|apply kM|(apply kp;iterate 2 exact rfl)|((first|apply kz|apply ky);(·exact rfl);(·repeat(first|exact iO|exact iR rfl|apply iT));iterate 2 exact rfl)|(apply Go.Hb.kK;(iterate 4 exact rfl);intro _)|(apply kU;(iterate 2 exact rfl);(·repeat(first|exact sH _ _ _|apply sT));(first|exact nfL_eq rfl|exact rfl);exact rfl)|(apply kB;(iterate 2 exact rfl);intro _)|(apply kA;exact rfl;intro _)|(apply LR.append (xs := l.flatMap EvA.row) (news := (cfgA g).row) (m := 1); (· exact rfl); (· exact rfl); (· intro a' c'; (repeat (first | exact sH _ _ _ | apply sT))); (· exact fun w' hw' => hw'.rd_of_blk (mH _ _)); (· exact fun hx => by cases hx); (· exact rfl); (· exact ev_one _); (· omega); (· unfold maxLen; omega); (· exact rfl); (intro a4 c4)))
    all_goals (refine At.stage_same (fun _ h => St.sub h (by repeat (first | exact List.Sublist.refl _ | apply List.Sublist.cons_cons | apply List.Sublist.cons))) ?_))
  all_goals (
    apply DW.quiet [8]
    · decide +kernel
    · first | exact fun _ h => h | exact fun _ h => St.sub h (by repeat (first | exact List.Sublist.refl _ | apply List.Sublist.cons_cons | apply List.Sublist.cons))
    repeat'(first|(apply yp;iterate 3 exact rfl)|(apply QL.ev;(·exact rfl);(·first|((first|apply Ez|apply Ey);(·exact rfl);(·repeat(first|exact iO|exact iR rfl|apply iT));exact rfl)|((first|apply Ev.fieldAddr|apply Ev.len|apply EqOf.eq|apply EqOf.ne|apply Ev.conv|apply Ev.buildN);exact rfl)|((first|apply Ev.shr|apply Ev.shl);(iterate 2 exact rfl);first|decide|omega));·exact rfl)|(apply yq;iterate 5 exact rfl)|(apply QL.evg;(iterate 3 exact rfl);(·first|((first|apply Ez|apply Ey);(·exact rfl);(·repeat(first|exact iO|exact iR rfl|apply iT));exact rfl)|((first|apply Ev.fieldAddr|apply Ev.len|apply EqOf.eq|apply EqOf.ne|apply Ev.conv|apply Ev.buildN);exact rfl)|((first|apply Ev.shr|apply Ev.shl);(iterate 2 exact rfl);first|decide|omega));·exact rfl)|(apply yn;iterate 4 exact rfl)|((apply QL.split;iterate 3 exact rfl);all_goals(intro hc;try simp only[hcs]at hc;try(exfalso;first|contradiction|omega)))|apply QL.nil)
    all_goals (show DW _ _ _ _ _ _ _ _))
  all_goals (apply DW.done; (· decide +kernel))
  all_goals apply At.sink
  repeat'(first|(apply kp;iterate 2 exact rfl)|apply jJ|(apply jE;exact rfl)|(apply jp;exact rfl)|(apply jc;kernel_rfl)|((first|apply kf|apply kn|apply ke|apply kx|apply kc|apply kb);iterate 2 exact rfl)|((first|apply kz|apply ky);(·exact rfl);(·repeat(first|exact iO|exact iR rfl|apply iT));iterate 2 exact rfl)|(apply kg;iterate 2 exact rfl)|(apply kG;iterate 3 exact rfl)|(apply kB;(iterate 2 exact rfl);intro _)|(apply kA;exact rfl;intro _)|(apply Go.Hb.kK;(iterate 4 exact rfl);intro _)|(apply kU;(iterate 2 exact rfl);(·repeat(first|exact sH _ _ _|apply sT));(first|exact nfL_eq rfl|exact rfl);exact rfl)|((first|apply kh|apply kl);(iterate 2 exact rfl);(first|decide|omega);exact rfl)|((first|(apply kR;iterate 2 exact rfl)|(apply kQ;exact rfl));all_goals(intro hc;try simp only[hcs]at hc;try(exfalso;first|contradiction|omega))))
  apply end0
  · exact rfl
  intro w' hS
  subst hF
  have h1 : St w (tO b a c l).foot [tB b a4 c4 (l ++ [cfgA g]).length, eS a4 c4 (l ++ [cfgA g])] w' := by
    rw [show (l ++ [cfgA g]).length = l.length + 1 by simp]
    have h2 : St w (tO b a c l).foot [tB b a4 c4 (l.length + 1), osl (.slice a4 (l.length + 1) c4) 52 26 (l.length + 1) (l.flatMap EvA.row ++ (cfgA g).row)] w' := hS.sub (by (repeat (first | exact List.Sublist.refl _ | apply List.Sublist.cons_cons | apply List.Sublist.cons)))
    rw [eS_snoc] at h2
    exact h2
  exact ⟨a4, c4, rfl, (h1.join rfl rfl).step rfl⟩
set_option maxHeartbeats 1000000 in
theorem q46 (b : Nat) (a : Option Addr) (c : Nat) (l : List EvA) (x : DaA) (w : World) (h : (tO b a c l).holds w) (hl : l.length ≤ 100000) :
    CallsTo Try.prog 46 [.pointer (some ⟨b, 0, none⟩), x.d.val x.a x.c] w fun v w' => ∃ a' c', v = .tuple #[] ∧ Step (tO b a c l) (tO b a' c' (l ++ tellA x)) w w' := by
  refine go_in (n := 17) (tO_turn h) Try.func46 rfl rfl ?_
  by_cases hk : x.d.msg.kind = 5
  · repeat'(first|(apply kB;(iterate 2 exact rfl);intro b3)|(apply kp;iterate 2 exact rfl)|apply jJ|(apply jE;exact rfl)|(apply jp;exact rfl)|(apply jc;kernel_rfl)|((first|apply kf|apply kn|apply ke|apply kx|apply kc|apply kb);iterate 2 exact rfl)|((first|apply kz|apply ky);(·exact rfl);(·repeat(first|exact iO|exact iR rfl|apply iT));iterate 2 exact rfl)|(apply kg;iterate 2 exact rfl)|(apply kG;iterate 3 exact rfl)|(apply kB;(iterate 2 exact rfl);intro _)|(apply kA;exact rfl;intro _)|(apply Go.Hb.kK;(iterate 4 exact rfl);intro _)|(apply kU;(iterate 2 exact rfl);(·repeat(first|exact sH _ _ _|apply sT));(first|exact nfL_eq rfl|exact rfl);exact rfl)|((first|apply kh|apply kl);(iterate 2 exact rfl);(first|decide|omega);exact rfl)|((first|(apply kR;iterate 2 exact rfl)|(apply kQ;exact rfl));all_goals(intro hc;try simp only[hcs]at hc;try(exfalso;first|contradiction|omega))))
    apply end0
    · exact rfl
    intro w' hS
    have e : l ++ tellA x = l := by unfold tellA; rw [if_pos hk, List.append_nil]
    rw [e]
    exact ⟨a, c, rfl, ((hS.sub (L' := [tB b a c l.length, eS a c l]) (by (repeat (first | exact List.Sublist.refl _ | apply List.Sublist.cons_cons | apply List.Sublist.cons)))).join rfl rfl).step rfl⟩
  · have e : tellA x = [msgA x] := by unfold tellA; rw [if_neg hk]
    rw [e]
    repeat'(first|(apply kB;(iterate 2 exact rfl);intro b3)|(apply CW.reg_sink 9 (St w (tO b a c l).foot [.own b3 (.cells x.row.toArray 44 (0, 0)), tB b a c l.length]); (· exact rfl); (· decide +kernel))|(apply kp;iterate 2 exact rfl)|apply jJ|(apply jE;exact rfl)|(apply jp;exact rfl)|(apply jc;kernel_rfl)|((first|apply kf|apply kn|apply ke|apply kx|apply kc|apply kb);iterate 2 exact rfl)|((first|apply kz|apply ky);(·exact rfl);(·repeat(first|exact iO|exact iR rfl|apply iT));iterate 2 exact rfl)|(apply kg;iterate 2 exact rfl)|(apply kG;iterate 3 exact rfl)|(apply kB;(iterate 2 exact rfl);intro _)|(apply kA;exact rfl;intro _)|(apply Go.Hb.kK;(iterate 4 exact rfl);intro _)|(apply kU;(iterate 2 exact rfl);(·repeat(first|exact sH _ _ _|apply sT));(first|exact nfL_eq rfl|exact rfl);exact rfl)|((first|apply kh|apply kl);(iterate 2 exact rfl);(first|decide|omega);exact rfl)|((first|(apply kR;iterate 2 exact rfl)|(apply kQ;exact rfl));all_goals(intro hc;try simp only[hcs]at hc;try(exfalso;first|contradiction|omega))))
    generalize hF : (tO b a c l).foot = F at *
    all_goals (
      apply DW.quiet [0, 1, 2, 3, 4, 5]
      · decide +kernel
      · first | exact fun _ h => h | exact fun _ h => St.sub h (by repeat (first | exact List.Sublist.refl _ | apply List.Sublist.cons_cons | apply List.Sublist.cons))
      repeat'(first|(apply yp;iterate 3 exact rfl)|(apply QL.ev;(·exact rfl);(·first|((first|apply Ez|apply Ey);(·exact rfl);(·repeat(first|exact iO|exact iR rfl|apply iT));exact rfl)|((first|apply Ev.fieldAddr|apply Ev.len|apply EqOf.eq|apply EqOf.ne|apply Ev.conv|apply Ev.buildN);exact rfl)|((first|apply Ev.shr|apply Ev.shl);(iterate 2 exact rfl);first|decide|omega));·exact rfl)|(apply yq;iterate 5 exact rfl)|(apply QL.evg;(iterate 3 exact rfl);(·first|((first|apply Ez|apply Ey);(·exact rfl);(·repeat(first|exact iO|exact iR rfl|apply iT));exact rfl)|((first|apply Ev.fieldAddr|apply Ev.len|apply EqOf.eq|apply EqOf.ne|apply Ev.conv|apply Ev.buildN);exact rfl)|((first|apply Ev.shr|apply Ev.shl);(iterate 2 exact rfl);first|decide|omega));·exact rfl)|(apply yn;iterate 4 exact rfl)|((apply QL.split;iterate 3 exact rfl);all_goals(intro hc;try simp only[hcs]at hc;try(exfalso;first|contradiction|omega)))|apply QL.nil)
      all_goals (show DW _ _ _ _ _ _ _ _))
    all_goals (
      apply DW.loud 6
      · exact rfl
      · decide +kernel
      repeat'(first|(apply kg;iterate 2 exact rfl)|(apply kG;iterate 3 exact rfl)|apply kM|(apply kp;iterate 2 exact rfl)|((first|apply kz|apply ky);(·exact rfl);(·repeat(first|exact iO|exact iR rfl|apply iT));iterate 2 exact rfl)|(apply Go.Hb.kK;(iterate 4 exact rfl);intro _)|(apply kU;(iterate 2 exact rfl);(·repeat(first|exact sH _ _ _|apply sT));(first|exact nfL_eq rfl|exact rfl);exact rfl)|(apply kB;(iterate 2 exact rfl);intro _)|(apply kA;exact rfl;intro _)|(apply LR.append (xs := l.flatMap EvA.row) (news := (msgA x).row) (m := 1); (· exact rfl); (· exact rfl); (· intro a' c'; (repeat (first | exact sH _ _ _ | apply sT))); (· exact fun w' hw' => hw'.rd_of_blk (mH _ _)); (· exact fun hx => by cases hx); (· exact rfl); (· exact ev_one _); (· omega); (· unfold maxLen; omega); (· exact rfl); (intro a4 c4)))
      all_goals (refine At.stage_same (fun _ h => St.sub h (by repeat (first | exact List.Sublist.refl _ | apply List.Sublist.cons_cons | apply List.Sublist.cons))) ?_))
    all_goals (
      apply DW.loud 7
      · exact rfl
      · decide +kernel
      repeat'(first|(apply kg;iterate 2 exact rfl)|(apply kG;iterate 3 exact rfl)|apply kM|(apply kp;iterate 2 exact rfl)|((first|apply kz|apply ky);(·exact rfl);(·repeat(first|exact iO|exact iR rfl|apply iT));iterate 2 exact rfl)|(apply Go.Hb.kK;(iterate 4 exact rfl);intro _)|(apply kU;(iterate 2 exact rfl);(·repeat(first|exact sH _ _ _|apply sT));(first|exact nfL_eq rfl|exact rfl);exact rfl)|(apply kB;(iterate 2 exact rfl);intro _)|(apply kA;exact rfl;intro _)|(apply LR.append (xs := l.flatMap EvA.row) (news := (msgA x).row) (m := 1); (· exact rfl); (· exact rfl); (· intro a' c'; (repeat (first | exact sH _ _ _ | apply sT))); (· exact fun w' hw' => hw'.rd_of_blk (mH _ _)); (· exact fun hx => by cases hx); (· exact rfl); (· exact ev_one _); (· omega); (· unfold maxLen; omega); (· exact rfl); (intro a4 c4)))
      all_goals (refine At.stage_same (fun _ h => St.sub h (by repeat (first | exact List.Sublist.refl _ | apply List.Sublist.cons_cons | apply List.Sublist.cons))) ?_))
    all_goals (
      apply DW.quiet [8]
      · decide +kernel
      · first | exact fun _ h => h | exact fun _ h => St.sub h (by repeat (first | exact List.Sublist.refl _ | apply List.Sublist.cons_cons | apply List.Sublist.cons))
      repeat'(first|(apply yp;iterate 3 exact rfl)|(apply QL.ev;(·exact rfl);(·first|((first|apply Ez|apply Ey);(·exact rfl);(·repeat(first|exact iO|exact iR rfl|apply iT));exact rfl)|((first|apply Ev.fieldAddr|apply Ev.len|apply EqOf.eq|apply EqOf.ne|apply Ev.conv|apply Ev.buildN);exact rfl)|((first|apply Ev.shr|apply Ev.shl);(iterate 2 exact rfl);first|decide|omega));·exact rfl)|(apply yq;iterate 5 exact rfl)|(apply QL.evg;(iterate 3 exact rfl);(·first|((first|apply Ez|apply Ey);(·exact rfl);(·repeat(first|exact iO|exact iR rfl|apply iT));exact rfl)|((first|apply Ev.fieldAddr|apply Ev.len|apply EqOf.eq|apply EqOf.ne|apply Ev.conv|apply Ev.buildN);exact rfl)|((first|apply Ev.shr|apply Ev.shl);(iterate 2 exact rfl);first|decide|omega));·exact rfl)|(apply yn;iterate 4 exact rfl)|((apply QL.split;iterate 3 exact rfl);all_goals(intro hc;try simp only[hcs]at hc;try(exfalso;first|contradiction|omega)))|apply QL.nil)
      all_goals (show DW _ _ _ _ _ _ _ _))
    all_goals (apply DW.done; (· decide +kernel))
    all_goals apply At.sink
    repeat'(first|(apply kp;iterate 2 exact rfl)|apply jJ|(apply jE;exact rfl)|(apply jp;exact rfl)|(apply jc;kernel_rfl)|((first|apply kf|apply kn|apply ke|apply kx|apply kc|apply kb);iterate 2 exact rfl)|((first|apply kz|apply ky);(·exact rfl);(·repeat(first|exact iO|exact iR rfl|apply iT));iterate 2 exact rfl)|(apply kg;iterate 2 exact rfl)|(apply kG;iterate 3 exact rfl)|(apply kB;(iterate 2 exact rfl);intro _)|(apply kA;exact rfl;intro _)|(apply Go.Hb.kK;(iterate 4 exact rfl);intro _)|(apply kU;(iterate 2 exact rfl);(·repeat(first|exact sH _ _ _|apply sT));(first|exact nfL_eq rfl|exact rfl);exact rfl)|((first|apply kh|apply kl);(iterate 2 exact rfl);(first|decide|omega);exact rfl)|((first|(apply kR;iterate 2 exact rfl)|(apply kQ;exact rfl));all_goals(intro hc;try simp only[hcs]at hc;try(exfalso;first|contradiction|omega))))
    apply end0
    · exact rfl
    intro w' hS
    subst hF
    have h1 : St w (tO b a c l).foot [tB b a4 c4 (l ++ [msgA x]).length, eS a4 c4 (l ++ [msgA x])] w' := by
      rw [show (l ++ [msgA x]).length = l.length + 1 by simp]
      have h2 : St w (tO b a c l).foot [tB b a4 c4 (l.length + 1), osl (.slice a4 (l.length + 1) c4) 52 26 (l.length + 1) (l.flatMap EvA.row ++ (msgA x).row)] w' := hS.sub (by (repeat (first | exact List.Sublist.refl _ | apply List.Sublist.cons_cons | apply List.Sublist.cons)))
      rw [eS_snoc] at h2
      exact h2
    exact ⟨a4, c4, rfl, (h1.join rfl rfl).step rfl⟩
set_option maxHeartbeats 1000000 in
theorem q48 (a : Option Addr) (c : Nat) (l : List EvA) (x : DaA) (w : World) (h : (eS a c l).holds w) (hl : l.length ≤ 100000) :
    CallsTo Try.prog 48 [.slice a l.length c, x.d.val x.a x.c] w fun v w' => ∃ a' c', v = .slice a' (l ++ tellA x).length c' ∧ Step (eS a c l) (eS a' c' (l ++ tellA x)) w w' := by
  have hS0 : St w (eS a c l).foot [eS a c l] w := St.one h (fun k hk => (World.ownsRow.lt h k hk).2) (osl.dep _ _ _ _ _)
  refine go_in (n := 15) hS0 Try.func48 rfl rfl ?_
  by_cases hk : x.d.msg.kind = 5
  · repeat'(first|(apply kB;(iterate 2 exact rfl);intro b3)|(apply kp;iterate 2 exact rfl)|apply jJ|(apply jE;exact rfl)|(apply jp;exact rfl)|(apply jc;kernel_rfl)|((first|apply kf|apply kn|apply ke|apply kx|apply kc|apply kb);iterate 2 exact rfl)|((first|apply kz|apply ky);(·exact rfl);(·repeat(first|exact iO|exact iR rfl|apply iT));iterate 2 exact rfl)|(apply kg;iterate 2 exact rfl)|(apply kG;iterate 3 exact rfl)|(apply kB;(iterate 2 exact rfl);intro _)|(apply kA;exact rfl;intro _)|(apply Go.Hb.kK;(iterate 4 exact rfl);intro _)|(apply kU;(iterate 2 exact rfl);(·repeat(first|exact sH _ _ _|apply sT));(first|exact nfL_eq rfl|exact rfl);exact rfl)|((first|apply kh|apply kl);(iterate 2 exact rfl);(first|decide|omega);exact rfl)|((first|(apply kR;iterate 2 exact rfl)|(apply kQ;exact rfl));all_goals(intro hc;try simp only[hcs]at hc;try(exfalso;first|contradiction|omega))))
    (apply ret1; (· exact rfl); intro w' hS)
    have e : l ++ tellA x = l := by unfold tellA; rw [if_pos hk, List.append_nil]
    rw [e]
    exact ⟨a, c, rfl, (hS.sub (L' := [eS a c l]) (by (repeat (first | exact List.Sublist.refl _ | apply List.Sublist.cons_cons | apply List.Sublist.cons)))).step rfl⟩
  · have e : tellA x = [msgA x] := by unfold tellA; rw [if_neg hk]
    rw [e]
    repeat'(first|(apply kB;(iterate 2 exact rfl);intro b3)|(apply kp;iterate 2 exact rfl)|apply jJ|(apply jE;exact rfl)|(apply jp;exact rfl)|(apply jc;kernel_rfl)|((first|apply kf|apply kn|apply ke|apply kx|apply kc|apply kb);iterate 2 exact rfl)|((first|apply kz|apply ky);(·exact rfl);(·repeat(first|exact iO|exact iR rfl|apply iT));iterate 2 exact rfl)|(apply kg;iterate 2 exact rfl)|(apply kG;iterate 3 exact rfl)|(apply kB;(iterate 2 exact rfl);intro _)|(apply kA;exact rfl;intro _)|(apply Go.Hb.kK;(iterate 4 exact rfl);intro _)|(apply kU;(iterate 2 exact rfl);(·repeat(first|exact sH _ _ _|apply sT));(first|exact nfL_eq rfl|exact rfl);exact rfl)|((first|apply kh|apply kl);(iterate 2 exact rfl);(first|decide|omega);exact rfl)|(apply LR.append (xs := l.flatMap EvA.row) (news := (msgA x).row) (m := 1); (· exact rfl); (· exact rfl); (· intro a' c'; (repeat (first | exact sH _ _ _ | apply sT))); (· exact fun w' hw' => hw'.rd_of_blk (mH _ _)); (· exact fun hx => by cases hx); (· exact rfl); (· exact ev_one _); (· omega); (· unfold maxLen; omega); (· exact rfl); (intro a4 c4))|((first|(apply kR;iterate 2 exact rfl)|(apply kQ;exact rfl));all_goals(intro hc;try simp only[hcs]at hc;try(exfalso;first|contradiction|omega))))
    (apply ret1; (· exact rfl); intro w' hS)
    rw [eS_snoc] at hS
    refine ⟨a4, c4, ?_, (hS.sub (L' := [eS a4 c4 (l ++ [msgA x])]) (by (repeat (first | exact List.Sublist.refl _ | apply List.Sublist.cons_cons | apply List.Sublist.cons)))).step rfl⟩
    show Value.slice a4 (l.length + 1) c4 = .slice a4 (l ++ [msgA x]).length c4
    simp
end Go.Proofs.Ytkolmkdbjagfcaa

namespace Go.Proofs.Ytkolmkdbjagfcaa
open Go.Hb
attribute [local irreducible] LR CW At Ev thn blk finK noG again CallsTo DW QL dnext TW DP
set_option linter.unusedSimpArgs false
set_option linter.unusedVariables false
set_option maxRecDepth 100000

def trC (o : OldC) (kin : Int) (nx : Cfg) : Cfg := ⟨nx.rs, nx.rr, o.cfg.rs, o.cfg.rr, kin, true, 0⟩
def nxC (nx : Cfg) : Cfg := ⟨nx.rs, nx.rr, 0, 0, nx.mem, false, nx.stamp⟩
def eO (a : Option Addr) (c : Nat) (l : List EvA) : Asrt := both (eS a c l) (bunE l)
theorem eO_dep (a : Option Addr) (c : Nat) (l : List EvA) : (eO a c l).dep := both_dep (osl.dep _ _ _ _ _) (bun_dep EvA.dep l)
theorem cfgA_e (g : Cfg) : (cfgA g).e = cfgE g := rfl
theorem tellA_len (x : DaA) : (tellA x).length ≤ 1 := by unfold tellA; split <;> simp
section
variable {w0 w : World} {F : Nat → Prop} {R : List Asrt} {l : List EvA} {x : DaA} {r : List DaA} {g : Cfg}
theorem e_cfg (h : St w0 F (bunE l :: R) w) : St w0 F (bunE (l ++ [cfgA g]) :: R) w := by
  have h1 : St w0 F ((cfgA g).body :: bunE l :: R) w := h.nilsl 5 1
  exact h1.bun_snoc EvA.dep EvA.ex
theorem e_0 (h : St w0 F (bunD (x :: r) :: bunE l :: R) w) : St w0 F (bunE l :: bunD r :: R) w :=
  front ((h.bun_head DaA.dep).tail1) 1 rfl rfl
theorem e_t (h : St w0 F (bunD (x :: r) :: bunE l :: R) w) : St w0 F (bunE (l ++ tellA x) :: bunD r :: R) w := by
  unfold tellA
  split
  · rw [List.append_nil]; exact e_0 h
  · have h1 : St w0 F ((msgA x).body :: bunD r :: bunE l :: R) w := h.bun_head DaA.dep
    have h2 : St w0 F ((msgA x).body :: bunE l :: bunD r :: R) w := front (front h1 2 rfl rfl) 1 rfl rfl
    exact h2.bun_snoc EvA.dep EvA.ex
theorem e_c (h : St w0 F (bunD (x :: r) :: bunE l :: R) w) : St w0 F (bunE (l ++ [cfgA g]) :: bunD r :: R) w := e_cfg (e_0 h)
theorem e_ct (h : St w0 F (bunD (x :: r) :: bunE l :: R) w) : St w0 F (bunE ((l ++ [cfgA g]) ++ tellA x) :: bunD r :: R) w := by
  have h1 : St w0 F (bunE (l ++ [cfgA g]) :: bunD (x :: r) :: R) w := e_cfg (front h 1 rfl rfl)
  exact e_t (front h1 1 rfl rfl)
end
theorem prog_inv {X : List EvD} {s kin at_ : Int} {t : EvD} {p g : Bool} {d : Dat} {r : List Dat} {TT : List EvD} (hinv : X ++ progT s kin t at_ p g (d :: r) = TT) (cut tl : Bool)
    (hcut : (!p && ((g || !decide (d.seq = at_ + 1)) || (d.msg.safe && decide (s < d.seq)))) = cut) (htl : (!(g || !decide (d.seq = at_ + 1)) || hasC kin d.sender) = tl) :
    X ++ ((if cut then [t] else []) ++ ((if tl then tellD d else []) ++ progT s kin t d.seq (p || cut) (g || !decide (d.seq = at_ + 1)) r)) = TT := by
  rw [← hinv, progT]
  simp only [hcut, htl, List.append_assoc]
structure Kst where
  k : Nat
  l : List EvA
  a : Option Addr
  c : Nat
  at_ : Int
  p : Bool
  g : Bool
set_option maxHeartbeats 8000000 in
theorem q14 (bw bm : Nat) (es : List DaA) (aru high : Int) (o : OldC) (kin : Int) (nx : Cfg) (w : World) (h : (wO bw bm es aru high).holds w) (hD : WOk (dats es)) (hl : es.length ≤ 1000) (h1 : inI o.cfg.mem) (h2 : inI nx.mem) (h3 : inI kin) (hm : mayC o kin nx = true) :
    CallsTo Try.prog 14 [o.val, .pointer (some ⟨bw, 0, none⟩), .int .i64 kin, nx.val] w fun v w' => ∃ a' c' l', v = .tuple [.slice a' l'.length c', .int .i64 0].toArray ∧ l'.map EvA.e = toldT (dats es) o.done o.safe kin (trC o kin nx) (nxC nx) ∧ l'.length ≤ 10000 ∧ New1 (eO a' c' l') w w' := by
  refine go_in (n := 97) (wO_in h) Try.func14 rfl rfl ?_
  repeat'(first|(apply kB;(iterate 2 exact rfl);intro _)|(apply kp;iterate 2 exact rfl)|apply jJ|(apply jE;exact rfl)|(apply jp;exact rfl)|(apply jc;kernel_rfl)|((first|apply kf|apply kn|apply ke|apply kx|apply kc|apply kb);iterate 2 exact rfl)|((first|apply kz|apply ky);(·exact rfl);(·repeat(first|exact iO|exact iR rfl|apply iT));iterate 2 exact rfl)|(apply kg;iterate 2 exact rfl)|(apply kG;iterate 3 exact rfl)|(apply kB;(iterate 2 exact rfl);intro _)|(apply kA;exact rfl;intro _)|(apply Go.Hb.kK;(iterate 4 exact rfl);intro _)|(apply kU;(iterate 2 exact rfl);(·repeat(first|exact sH _ _ _|apply sT));(first|exact nfL_eq rfl|exact rfl);exact rfl)|((first|apply kh|apply kl);(iterate 2 exact rfl);(first|decide|omega);exact rfl)|(apply kq; (· exact rfl); (· intro w1 hw1; have hq := CallsTo.q (q43 o kin nx w1 h1 h2 h3) hw1; rw [hm] at hq; exact hq))|(apply LR.call; (· exact rfl); (intro w1 hw1; refine (t34 bw bm es aru high o.done w1 (w_out hw1 (by (repeat (first | exact mH _ _ | apply mT)))) hD (by omega)).mono ?_; rintro v w2 ⟨a5, c5, o5, rfl, ho5, hn⟩; refine LR.back (hw1.got hn (dO_dep _ _ _)) ?_; clear hn hw1))|((first|(apply kR;iterate 2 exact rfl)|(apply kQ;exact rfl));all_goals(intro hc;try simp only[hcs]at hc;try(exfalso;first|contradiction|omega))))
  rename_i b4 b7 b10 b11
  have hol5 : o5.length ≤ 1000 := by
    have h4 := congrArg List.length ho5
    have h5 := abvS_len (dats es) o.done (sqs (dats es))
    rw [sqs_len, dats_len] at h5
    have h6 : (abvT (dats es) o.done).length ≤ es.length := h5
    rw [dats_len] at h4
    omega
  obtain ⟨TT, hTT⟩ : ∃ TT, progT o.safe kin (cfgE (trC o kin nx)) o.done false false (dats o5) = TT := ⟨_, rfl⟩
  have htold : toldT (dats es) o.done o.safe kin (trC o kin nx) (nxC nx) = TT ++ [cfgE (nxC nx)] := by
    unfold toldT
    rw [← hTT, ho5]
  have hgt : ∀ d ∈ dats o5, hasD (dats es) d.seq = true := fun d hd => by rw [ho5] at hd; exact (abv_gt hd).2.1
  rw [htold]
  clear htold
  have hrg : ∀ d ∈ dats o5, 1 ≤ d.seq ∧ d.seq ≤ 9007199254740991 := fun d hd => by
    obtain ⟨y, hy, e⟩ := has_iff.1 (hgt d hd)
    have := hD.rng y hy
    omega
  have hdone : 0 ≤ o.done := by
    unfold mayC at hm
    simp only [Bool.and_eq_true, decide_eq_true_eq] at hm
    exact hm.1.1.1.2
  have hdoneL : 0 < o5.length → o.done ≤ 9007199254740991 := fun h0 => by
    have hx : o5[0].d ∈ dats o5 := List.mem_map_of_mem (List.getElem_mem h0)
    have j1 := hrg _ hx
    rw [ho5] at hx
    have j2 := (abv_gt hx).1
    omega
  apply CW.loop [12, 13, 14, 16, 40, 41, 42, 43, 44, 45, 46, 47, 48, 49, 50, 51, 52, 53, 54, 55, 56, 57, 58, 59, 60, 61, 62, 63, 64, 65, 66, 67, 68, 69, 70, 71, 72, 73, 74, 75, 76, 77, 78, 79, 80, 81, 82, 83] (fun s : Kst => s.k ≤ o5.length ∧ s.l.length ≤ 2 * s.k ∧ s.l.map EvA.e ++ progT o.safe kin (cfgE (trC o kin nx)) s.at_ s.p s.g ((dats o5).drop s.k) = TT ∧ 0 ≤ s.at_ ∧ (s.k < o5.length → s.at_ ≤ 9007199254740991)) (fun s => [(40, .int .i64 (s.k : Int)), (12, .int .i64 s.at_), (13, .bool s.p), (14, .bool s.g)])
    (fun s => St w NoF [bunE s.l, bunD (o5.drop s.k), tO b10 s.a s.c s.l, dS a5 c5 o5, .own b11 (.cells (trC o kin nx).cells.toArray 25 (0, 0)), .own b7 (.cells nx.cells.toArray 25 (0, 0)), .own b4 (.cells o.cells.toArray 27 (0, 0)), wR bw bm es aru high]) (fun s => o5.length - s.k)
  · intro w' hw'
    refine ⟨⟨0, [], none, 0, o.done, false, false⟩, ⟨by simp, by simp, hTT, hdone, fun hlt => hdoneL hlt⟩, ⟨rfl, rfl, rfl, rfl, trivial⟩, ?_⟩
    have j1 := (hw'.part (osl.dep _ _ _ _ _) (bun_dep DaA.dep o5)).nilsl 52 26
    have j2 : St w NoF [tB b10 none 0 0, eS none 0 [], dS a5 c5 o5, bunD o5, .own b11 (.cells (trC o kin nx).cells.toArray 25 (0, 0)), .own b7 (.cells nx.cells.toArray 25 (0, 0)), .own b4 (.cells o.cells.toArray 27 (0, 0)), wR bw bm es aru high] w' := front j1 4 rfl rfl
    have j3 : St w NoF [bunD o5, tO b10 none 0 [], dS a5 c5 o5, .own b11 (.cells (trC o kin nx).cells.toArray 25 (0, 0)), .own b7 (.cells nx.cells.toArray 25 (0, 0)), .own b4 (.cells o.cells.toArray 27 (0, 0)), wR bw bm es aru high] w' := front (j2.join rfl rfl) 2 rfl rfl
    exact j3.bun_nil EvA.dep
  rintro ⟨k, l, a, c, at_, p, g⟩ g1 ⟨hk, hlk, hinv, hat0, hat1⟩
  simp only at hk hlk hinv hat0 hat1 ⊢
  by_cases hlt : k < o5.length
  · have hx := hrg o5[k].d (List.mem_map_of_mem (List.getElem_mem hlt))
    have htl := tellA_len o5[k]
    have hat2 := hat1 hlt
    have hdrop : o5.drop k = o5[k] :: o5.drop (k + 1) := List.drop_eq_getElem_cons hlt
    have hdd : (dats o5).drop k = o5[k].d :: (dats o5).drop (k + 1) := by
      unfold dats
      rw [← List.map_drop, hdrop, List.map_cons, List.map_drop]
    rw [hdd] at hinv
    refine LR_cls_cw fun w1 hw1 => ?_
    obtain ⟨bg, og, rfl⟩ := (hw1.rd_of_own (a := a5) (n := o5.length) (by (repeat (first | exact mH _ _ | apply mT)))).form (rows_ne DaA.row_len (by decide) hlt)
    refine CW.sub (D := St w NoF _) ?_ (fun u e => e ▸ hw1)
    clear hw1 w1
    cases p <;> cases g
    all_goals
      repeat'(first|(apply kp;iterate 2 exact rfl)|apply jJ|(apply jE;exact rfl)|(apply jp;exact rfl)|(apply jc;kernel_rfl)|((first|apply kf|apply kn|apply ke|apply kx|apply kc|apply kb);iterate 2 exact rfl)|((first|apply kz|apply ky);(·exact rfl);(·repeat(first|exact iO|exact iR rfl|apply iT));iterate 2 exact rfl)|(apply kg;iterate 2 exact rfl)|(apply kG;iterate 3 exact rfl)|(apply kB;(iterate 2 exact rfl);intro _)|(apply kA;exact rfl;intro _)|(apply Go.Hb.kK;(iterate 4 exact rfl);intro _)|(apply kU;(iterate 2 exact rfl);(·repeat(first|exact sH _ _ _|apply sT));(first|exact nfL_eq rfl|exact rfl);exact rfl)|((first|apply kh|apply kl);(iterate 2 exact rfl);(first|decide|omega);exact rfl)|(apply idxX;(iterate 2 exact rfl);(iterate 2(first|omega|(dsimp only;omega)));exact rfl)|(apply LR.ev; (· first | (apply Ev.load_agg_at (cs := o5[k].row); (· exact rfl); (· exact rfl); (· intro w' hw'; exact rd_row DaA.row_len (hw'.rd_of_own (n := o5.length) (by (repeat (first | exact mH _ _ | apply mT)))) hlt (by omega)))); (· exact rfl))|(apply addX;(iterate 2 exact rfl);(iterate 2(first|omega|(dsimp only;omega)));exact rfl)|(apply kq; (· exact rfl); (· intro w1 hw1; show CallsTo Try.prog 23 [.int .i64 kin, .int .i64 o5[k].d.sender] w1 _; exact CallsTo.q (q23 kin o5[k].d.sender w1) hw1))|(apply LR.call; (· exact rfl); (intro w1 hw1; first | (refine (q45 b10 a c l (trC o kin nx) w1 (hw1.holds _ (by (repeat (first | exact mH _ _ | apply mT)))) (by omega)).mono ?_; rintro v w2 ⟨a3, c3, rfl, hst⟩; apply LR.back; (· exact St.did hw1 (by (repeat (first | exact sH _ _ _ | apply sT))) rfl hst (tO_dep _ _ _ _)); clear hst hw1) | (refine (q46 b10 a3 c3 (l ++ [cfgA (trC o kin nx)]) o5[k] w1 (hw1.holds _ (by (repeat (first | exact mH _ _ | apply mT)))) (by simp only [List.length_append, List.length_cons, List.length_nil]; omega)).mono ?_; rintro v w2 ⟨a4, c4, rfl, hst⟩; apply LR.back; (· exact St.did hw1 (by (repeat (first | exact sH _ _ _ | apply sT))) rfl hst (tO_dep _ _ _ _)); clear hst hw1) | (refine (q46 b10 a c l o5[k] w1 (hw1.holds _ (by (repeat (first | exact mH _ _ | apply mT)))) (by omega)).mono ?_; rintro v w2 ⟨a4, c4, rfl, hst⟩; apply LR.back; (· exact St.did hw1 (by (repeat (first | exact sH _ _ _ | apply sT))) rfl hst (tO_dep _ _ _ _)); clear hst hw1)))|((first|(apply kR;iterate 2 exact rfl)|(apply kQ;exact rfl));all_goals(intro hc;try simp only[hcs]at hc;try(exfalso;first|contradiction|omega))))
    · refine At.again (⟨k + 1, (l ++ [cfgA (trC o kin nx)]) ++ tellA o5[k], a4, c4, o5[k].d.seq, true, (!decide (o5[k].d.seq = at_ + 1))⟩ : Kst) ⟨by simp only; omega, by simp only [List.length_append, List.length_cons, List.length_nil]; omega, ?_, by simp only; omega, fun _ => by simp only; omega⟩ ?_ ⟨rfl, rfl, rfl, rfl, trivial⟩ (fun w' hw' => ?_) (by simp only; omega)
      · have hh := prog_inv hinv true true (by simp [show ¬ o5[k].d.seq = at_ + 1 by assumption, show hasC kin o5[k].d.sender = true by assumption]) (by simp [show ¬ o5[k].d.seq = at_ + 1 by assumption, show hasC kin o5[k].d.sender = true by assumption])
        simpa [tellA_e, cfgA_e, List.append_assoc] using hh
      · (repeat (first | exact Out.refl _ _ | exact Out.mix | (apply Out.upd; (· exact rfl)) | (apply Out.updL; (· exact rfl)) | (apply Out.mixs; (· exact rfl))))
      · have h1 := front hw'.tail1 1 rfl rfl
        rw [hdrop] at h1
        exact e_ct h1
    · refine At.again (⟨k + 1, l ++ [cfgA (trC o kin nx)], a3, c3, o5[k].d.seq, true, (!decide (o5[k].d.seq = at_ + 1))⟩ : Kst) ⟨by simp only; omega, by simp only [List.length_append, List.length_cons, List.length_nil]; omega, ?_, by simp only; omega, fun _ => by simp only; omega⟩ ?_ ⟨rfl, rfl, rfl, rfl, trivial⟩ (fun w' hw' => ?_) (by simp only; omega)
      · have hh := prog_inv hinv true false (by simp [show ¬ o5[k].d.seq = at_ + 1 by assumption, show hasC kin o5[k].d.sender = false by assumption]) (by simp [show ¬ o5[k].d.seq = at_ + 1 by assumption, show hasC kin o5[k].d.sender = false by assumption])
        simpa [tellA_e, cfgA_e, List.append_assoc] using hh
      · (repeat (first | exact Out.refl _ _ | exact Out.mix | (apply Out.upd; (· exact rfl)) | (apply Out.updL; (· exact rfl)) | (apply Out.mixs; (· exact rfl))))
      · have h1 := front hw'.tail1 1 rfl rfl
        rw [hdrop] at h1
        exact e_c h1
    · refine At.again (⟨k + 1, (l ++ [cfgA (trC o kin nx)]) ++ tellA o5[k], a4, c4, o5[k].d.seq, true, (!decide (o5[k].d.seq = at_ + 1))⟩ : Kst) ⟨by simp only; omega, by simp only [List.length_append, List.length_cons, List.length_nil]; omega, ?_, by simp only; omega, fun _ => by simp only; omega⟩ ?_ ⟨rfl, rfl, rfl, rfl, trivial⟩ (fun w' hw' => ?_) (by simp only; omega)
      · have hh := prog_inv hinv true true (by simp [show o5[k].d.seq = at_ + 1 by assumption, show o5[k].d.msg.safe = true by assumption, show o.safe < o5[k].d.seq by assumption]; omega) (by simp [show o5[k].d.seq = at_ + 1 by assumption, show o5[k].d.msg.safe = true by assumption, show o.safe < o5[k].d.seq by assumption])
        simpa [tellA_e, cfgA_e, List.append_assoc] using hh
      · (repeat (first | exact Out.refl _ _ | exact Out.mix | (apply Out.upd; (· exact rfl)) | (apply Out.updL; (· exact rfl)) | (apply Out.mixs; (· exact rfl))))
      · have h1 := front hw'.tail1 1 rfl rfl
        rw [hdrop] at h1
        exact e_ct h1
    · refine At.again (⟨k + 1, l ++ tellA o5[k], a4, c4, o5[k].d.seq, false, (!decide (o5[k].d.seq = at_ + 1))⟩ : Kst) ⟨by simp only; omega, by simp only [List.length_append, List.length_cons, List.length_nil]; omega, ?_, by simp only; omega, fun _ => by simp only; omega⟩ ?_ ⟨rfl, rfl, rfl, rfl, trivial⟩ (fun w' hw' => ?_) (by simp only; omega)
      · have hh := prog_inv hinv false true (by simp [show o5[k].d.seq = at_ + 1 by assumption, show o5[k].d.msg.safe = true by assumption, show ¬ o.safe < o5[k].d.seq by omega]; omega) (by simp [show o5[k].d.seq = at_ + 1 by assumption, show o5[k].d.msg.safe = true by assumption, show ¬ o.safe < o5[k].d.seq by omega])
        simpa [tellA_e, cfgA_e, List.append_assoc] using hh
      · (repeat (first | exact Out.refl _ _ | exact Out.mix | (apply Out.upd; (· exact rfl)) | (apply Out.updL; (· exact rfl)) | (apply Out.mixs; (· exact rfl))))
      · have h1 := front hw'.tail1 1 rfl rfl
        rw [hdrop] at h1
        exact e_t h1
    · refine At.again (⟨k + 1, l ++ tellA o5[k], a4, c4, o5[k].d.seq, false, (!decide (o5[k].d.seq = at_ + 1))⟩ : Kst) ⟨by simp only; omega, by simp only [List.length_append, List.length_cons, List.length_nil]; omega, ?_, by simp only; omega, fun _ => by simp only; omega⟩ ?_ ⟨rfl, rfl, rfl, rfl, trivial⟩ (fun w' hw' => ?_) (by simp only; omega)
      · have hh := prog_inv hinv false true (by simp [show o5[k].d.seq = at_ + 1 by assumption, show o5[k].d.msg.safe = false by assumption]) (by simp [show o5[k].d.seq = at_ + 1 by assumption, show o5[k].d.msg.safe = false by assumption])
        simpa [tellA_e, cfgA_e, List.append_assoc] using hh
      · (repeat (first | exact Out.refl _ _ | exact Out.mix | (apply Out.upd; (· exact rfl)) | (apply Out.updL; (· exact rfl)) | (apply Out.mixs; (· exact rfl))))
      · have h1 := front hw'.tail1 1 rfl rfl
        rw [hdrop] at h1
        exact e_t h1
    · refine At.again (⟨k + 1, (l ++ [cfgA (trC o kin nx)]) ++ tellA o5[k], a4, c4, o5[k].d.seq, true, true⟩ : Kst) ⟨by simp only; omega, by simp only [List.length_append, List.length_cons, List.length_nil]; omega, ?_, by simp only; omega, fun _ => by simp only; omega⟩ ?_ ⟨rfl, rfl, rfl, rfl, trivial⟩ (fun w' hw' => ?_) (by simp only; omega)
      · have hh := prog_inv hinv true true (by simp [show hasC kin o5[k].d.sender = true by assumption]) (by simp [show hasC kin o5[k].d.sender = true by assumption])
        simpa [tellA_e, cfgA_e, List.append_assoc] using hh
      · (repeat (first | exact Out.refl _ _ | exact Out.mix | (apply Out.upd; (· exact rfl)) | (apply Out.updL; (· exact rfl)) | (apply Out.mixs; (· exact rfl))))
      · have h1 := front hw'.tail1 1 rfl rfl
        rw [hdrop] at h1
        exact e_ct h1
    · refine At.again (⟨k + 1, l ++ [cfgA (trC o kin nx)], a3, c3, o5[k].d.seq, true, true⟩ : Kst) ⟨by simp only; omega, by simp only [List.length_append, List.length_cons, List.length_nil]; omega, ?_, by simp only; omega, fun _ => by simp only; omega⟩ ?_ ⟨rfl, rfl, rfl, rfl, trivial⟩ (fun w' hw' => ?_) (by simp only; omega)
      · have hh := prog_inv hinv true false (by simp [show hasC kin o5[k].d.sender = false by assumption]) (by simp [show hasC kin o5[k].d.sender = false by assumption])
        simpa [tellA_e, cfgA_e, List.append_assoc] using hh
      · (repeat (first | exact Out.refl _ _ | exact Out.mix | (apply Out.upd; (· exact rfl)) | (apply Out.updL; (· exact rfl)) | (apply Out.mixs; (· exact rfl))))
      · have h1 := front hw'.tail1 1 rfl rfl
        rw [hdrop] at h1
        exact e_c h1
    · refine At.again (⟨k + 1, l ++ tellA o5[k], a4, c4, o5[k].d.seq, true, (!decide (o5[k].d.seq = at_ + 1))⟩ : Kst) ⟨by simp only; omega, by simp only [List.length_append, List.length_cons, List.length_nil]; omega, ?_, by simp only; omega, fun _ => by simp only; omega⟩ ?_ ⟨rfl, rfl, rfl, rfl, trivial⟩ (fun w' hw' => ?_) (by simp only; omega)
      · have hh := prog_inv hinv false true (by simp [show o5[k].d.seq = at_ + 1 by assumption]) (by simp [show o5[k].d.seq = at_ + 1 by assumption])
        simpa [tellA_e, cfgA_e, List.append_assoc] using hh
      · (repeat (first | exact Out.refl _ _ | exact Out.mix | (apply Out.upd; (· exact rfl)) | (apply Out.updL; (· exact rfl)) | (apply Out.mixs; (· exact rfl))))
      · have h1 := front hw'.tail1 1 rfl rfl
        rw [hdrop] at h1
        exact e_t h1
    · refine At.again (⟨k + 1, l ++ tellA o5[k], a4, c4, o5[k].d.seq, true, (!decide (o5[k].d.seq = at_ + 1))⟩ : Kst) ⟨by simp only; omega, by simp only [List.length_append, List.length_cons, List.length_nil]; omega, ?_, by simp only; omega, fun _ => by simp only; omega⟩ ?_ ⟨rfl, rfl, rfl, rfl, trivial⟩ (fun w' hw' => ?_) (by simp only; omega)
      · have hh := prog_inv hinv false true (by simp [show ¬ o5[k].d.seq = at_ + 1 by assumption, show hasC kin o5[k].d.sender = true by assumption]) (by simp [show ¬ o5[k].d.seq = at_ + 1 by assumption, show hasC kin o5[k].d.sender = true by assumption])
        simpa [tellA_e, cfgA_e, List.append_assoc] using hh
      · (repeat (first | exact Out.refl _ _ | exact Out.mix | (apply Out.upd; (· exact rfl)) | (apply Out.updL; (· exact rfl)) | (apply Out.mixs; (· exact rfl))))
      · have h1 := front hw'.tail1 1 rfl rfl
        rw [hdrop] at h1
        exact e_t h1
    · refine At.again (⟨k + 1, l, a, c, o5[k].d.seq, true, (!decide (o5[k].d.seq = at_ + 1))⟩ : Kst) ⟨by simp only; omega, by simp only [List.length_append, List.length_cons, List.length_nil]; omega, ?_, by simp only; omega, fun _ => by simp only; omega⟩ ?_ ⟨rfl, rfl, rfl, rfl, trivial⟩ (fun w' hw' => ?_) (by simp only; omega)
      · have hh := prog_inv hinv false false (by simp [show ¬ o5[k].d.seq = at_ + 1 by assumption, show hasC kin o5[k].d.sender = false by assumption]) (by simp [show ¬ o5[k].d.seq = at_ + 1 by assumption, show hasC kin o5[k].d.sender = false by assumption])
        simpa [tellA_e, cfgA_e, List.append_assoc] using hh
      · (repeat (first | exact Out.refl _ _ | exact Out.mix | (apply Out.upd; (· exact rfl)) | (apply Out.updL; (· exact rfl)) | (apply Out.mixs; (· exact rfl))))
      · have h1 := front hw'.tail1 1 rfl rfl
        rw [hdrop] at h1
        exact e_0 h1
    · refine At.again (⟨k + 1, l ++ tellA o5[k], a4, c4, o5[k].d.seq, true, true⟩ : Kst) ⟨by simp only; omega, by simp only [List.length_append, List.length_cons, List.length_nil]; omega, ?_, by simp only; omega, fun _ => by simp only; omega⟩ ?_ ⟨rfl, rfl, rfl, rfl, trivial⟩ (fun w' hw' => ?_) (by simp only; omega)
      · have hh := prog_inv hinv false true (by simp [show hasC kin o5[k].d.sender = true by assumption]) (by simp [show hasC kin o5[k].d.sender = true by assumption])
        simpa [tellA_e, cfgA_e, List.append_assoc] using hh
      · (repeat (first | exact Out.refl _ _ | exact Out.mix | (apply Out.upd; (· exact rfl)) | (apply Out.updL; (· exact rfl)) | (apply Out.mixs; (· exact rfl))))
      · have h1 := front hw'.tail1 1 rfl rfl
        rw [hdrop] at h1
        exact e_t h1
    · refine At.again (⟨k + 1, l, a, c, o5[k].d.seq, true, true⟩ : Kst) ⟨by simp only; omega, by simp only [List.length_append, List.length_cons, List.length_nil]; omega, ?_, by simp only; omega, fun _ => by simp only; omega⟩ ?_ ⟨rfl, rfl, rfl, rfl, trivial⟩ (fun w' hw' => ?_) (by simp only; omega)
      · have hh := prog_inv hinv false false (by simp [show hasC kin o5[k].d.sender = false by assumption]) (by simp [show hasC kin o5[k].d.sender = false by assumption])
        simpa [tellA_e, cfgA_e, List.append_assoc] using hh
      · (repeat (first | exact Out.refl _ _ | exact Out.mix | (apply Out.upd; (· exact rfl)) | (apply Out.updL; (· exact rfl)) | (apply Out.mixs; (· exact rfl))))
      · have h1 := front hw'.tail1 1 rfl rfl
        rw [hdrop] at h1
        exact e_0 h1
  · have hke : k = o5.length := by omega
    subst hke
    rw [List.drop_of_length_le (by rw [dats_len]; exact Nat.le_refl _)] at hinv
    rw [List.drop_of_length_le (Nat.le_refl _)]
    cases p
    · have hinv2 : (l ++ [cfgA (trC o kin nx)]).map EvA.e = TT := by rw [List.map_append]; exact hinv
      repeat'(first|(apply kp;iterate 2 exact rfl)|apply jJ|(apply jE;exact rfl)|(apply jp;exact rfl)|(apply jc;kernel_rfl)|((first|apply kf|apply kn|apply ke|apply kx|apply kc|apply kb);iterate 2 exact rfl)|((first|apply kz|apply ky);(·exact rfl);(·repeat(first|exact iO|exact iR rfl|apply iT));iterate 2 exact rfl)|(apply kg;iterate 2 exact rfl)|(apply kG;iterate 3 exact rfl)|(apply kB;(iterate 2 exact rfl);intro _)|(apply kA;exact rfl;intro _)|(apply Go.Hb.kK;(iterate 4 exact rfl);intro _)|(apply kU;(iterate 2 exact rfl);(·repeat(first|exact sH _ _ _|apply sT));(first|exact nfL_eq rfl|exact rfl);exact rfl)|((first|apply kh|apply kl);(iterate 2 exact rfl);(first|decide|omega);exact rfl)|(apply LR.call; (· exact rfl); (intro w1 hw1; first | (refine (q45 b10 a3 c3 (l ++ [cfgA (trC o kin nx)]) (nxC nx) w1 (hw1.holds _ (by (repeat (first | exact mH _ _ | apply mT)))) (by simp only [List.length_append, List.length_cons, List.length_nil]; omega)).mono ?_; rintro v w2 ⟨a6, c6, rfl, hst⟩; apply LR.back; (· exact St.did hw1 (by (repeat (first | exact sH _ _ _ | apply sT))) rfl hst (tO_dep _ _ _ _)); clear hst hw1) | (refine (q45 b10 a c l (trC o kin nx) w1 (hw1.holds _ (by (repeat (first | exact mH _ _ | apply mT)))) (by omega)).mono ?_; rintro v w2 ⟨a3, c3, rfl, hst⟩; apply LR.back; (· exact St.did hw1 (by (repeat (first | exact sH _ _ _ | apply sT))) rfl hst (tO_dep _ _ _ _)); clear hst hw1)))|((first|(apply kR;iterate 2 exact rfl)|(apply kQ;exact rfl));all_goals(intro hc;try simp only[hcs]at hc;try(exfalso;first|contradiction|omega))))
      refine LR.sub (D := St w NoF [tB b10 a6 c6 (l ++ [cfgA (trC o kin nx)] ++ [cfgA (nxC nx)]).length, eS a6 c6 (l ++ [cfgA (trC o kin nx)] ++ [cfgA (nxC nx)]), bunE (l ++ [cfgA (trC o kin nx)] ++ [cfgA (nxC nx)])]) (fun w' hw' => ?_) ?_
      · have j1 := front (e_cfg (g := nxC nx) (e_cfg (g := trC o kin nx) hw')) 2 rfl rfl
        exact (j1.part (Asrt.dep_own _ _) (osl.dep _ _ _ _ _)).sub (by (repeat (first | exact List.Sublist.refl _ | apply List.Sublist.cons_cons | apply List.Sublist.cons)))
      repeat'(first|(apply kp;iterate 2 exact rfl)|apply jJ|(apply jE;exact rfl)|(apply jp;exact rfl)|(apply jc;kernel_rfl)|((first|apply kf|apply kn|apply ke|apply kx|apply kc|apply kb);iterate 2 exact rfl)|((first|apply kz|apply ky);(·exact rfl);(·repeat(first|exact iO|exact iR rfl|apply iT));iterate 2 exact rfl)|(apply kg;iterate 2 exact rfl)|(apply kG;iterate 3 exact rfl)|(apply kB;(iterate 2 exact rfl);intro _)|(apply kA;exact rfl;intro _)|(apply Go.Hb.kK;(iterate 4 exact rfl);intro _)|(apply kU;(iterate 2 exact rfl);(·repeat(first|exact sH _ _ _|apply sT));(first|exact nfL_eq rfl|exact rfl);exact rfl)|((first|apply kh|apply kl);(iterate 2 exact rfl);(first|decide|omega);exact rfl)|((first|(apply kR;iterate 2 exact rfl)|(apply kQ;exact rfl));all_goals(intro hc;try simp only[hcs]at hc;try(exfalso;first|contradiction|omega))))
      (apply ret2; (· exact rfl); intro w' hS)
      refine ⟨a6, c6, l ++ [cfgA (trC o kin nx)] ++ [cfgA (nxC nx)], rfl, by rw [List.map_append, hinv2]; rfl, by simp only [List.length_append, List.length_cons, List.length_nil]; omega, ?_⟩
      have j2 : St w NoF [eS a6 c6 (l ++ [cfgA (trC o kin nx)] ++ [cfgA (nxC nx)]), bunE (l ++ [cfgA (trC o kin nx)] ++ [cfgA (nxC nx)])] w' := hS.sub (by (repeat (first | exact List.Sublist.refl _ | apply List.Sublist.cons_cons | apply List.Sublist.cons)))
      exact St.new1 (R := []) (j2.join rfl rfl) rfl
    · have hinv2 : l.map EvA.e = TT := by rw [← hinv]; simp [progT]
      repeat'(first|(apply kp;iterate 2 exact rfl)|apply jJ|(apply jE;exact rfl)|(apply jp;exact rfl)|(apply jc;kernel_rfl)|((first|apply kf|apply kn|apply ke|apply kx|apply kc|apply kb);iterate 2 exact rfl)|((first|apply kz|apply ky);(·exact rfl);(·repeat(first|exact iO|exact iR rfl|apply iT));iterate 2 exact rfl)|(apply kg;iterate 2 exact rfl)|(apply kG;iterate 3 exact rfl)|(apply kB;(iterate 2 exact rfl);intro _)|(apply kA;exact rfl;intro _)|(apply Go.Hb.kK;(iterate 4 exact rfl);intro _)|(apply kU;(iterate 2 exact rfl);(·repeat(first|exact sH _ _ _|apply sT));(first|exact nfL_eq rfl|exact rfl);exact rfl)|((first|apply kh|apply kl);(iterate 2 exact rfl);(first|decide|omega);exact rfl)|(apply LR.call; (· exact rfl); (intro w1 hw1; (refine (q45 b10 a c l (nxC nx) w1 (hw1.holds _ (by (repeat (first | exact mH _ _ | apply mT)))) (by omega)).mono ?_; rintro v w2 ⟨a6, c6, rfl, hst⟩; apply LR.back; (· exact St.did hw1 (by (repeat (first | exact sH _ _ _ | apply sT))) rfl hst (tO_dep _ _ _ _)); clear hst hw1)))|((first|(apply kR;iterate 2 exact rfl)|(apply kQ;exact rfl));all_goals(intro hc;try simp only[hcs]at hc;try(exfalso;first|contradiction|omega))))
      refine LR.sub (D := St w NoF [tB b10 a6 c6 (l ++ [cfgA (nxC nx)]).length, eS a6 c6 (l ++ [cfgA (nxC nx)]), bunE (l ++ [cfgA (nxC nx)])]) (fun w' hw' => ?_) ?_
      · have j1 := front (e_cfg (g := nxC nx) hw') 2 rfl rfl
        exact (j1.part (Asrt.dep_own _ _) (osl.dep _ _ _ _ _)).sub (by (repeat (first | exact List.Sublist.refl _ | apply List.Sublist.cons_cons | apply List.Sublist.cons)))
      repeat'(first|(apply kp;iterate 2 exact rfl)|apply jJ|(apply jE;exact rfl)|(apply jp;exact rfl)|(apply jc;kernel_rfl)|((first|apply kf|apply kn|apply ke|apply kx|apply kc|apply kb);iterate 2 exact rfl)|((first|apply kz|apply ky);(·exact rfl);(·repeat(first|exact iO|exact iR rfl|apply iT));iterate 2 exact rfl)|(apply kg;iterate 2 exact rfl)|(apply kG;iterate 3 exact rfl)|(apply kB;(iterate 2 exact rfl);intro _)|(apply kA;exact rfl;intro _)|(apply Go.Hb.kK;(iterate 4 exact rfl);intro _)|(apply kU;(iterate 2 exact rfl);(·repeat(first|exact sH _ _ _|apply sT));(first|exact nfL_eq rfl|exact rfl);exact rfl)|((first|apply kh|apply kl);(iterate 2 exact rfl);(first|decide|omega);exact rfl)|((first|(apply kR;iterate 2 exact rfl)|(apply kQ;exact rfl));all_goals(intro hc;try simp only[hcs]at hc;try(exfalso;first|contradiction|omega))))
      (apply ret2; (· exact rfl); intro w' hS)
      refine ⟨a6, c6, l ++ [cfgA (nxC nx)], rfl, by rw [List.map_append, hinv2]; rfl, by simp only [List.length_append, List.length_cons, List.length_nil]; omega, ?_⟩
      have j2 : St w NoF [eS a6 c6 (l ++ [cfgA (nxC nx)]), bunE (l ++ [cfgA (nxC nx)])] w' := hS.sub (by (repeat (first | exact List.Sublist.refl _ | apply List.Sublist.cons_cons | apply List.Sublist.cons)))
      exact St.new1 (R := []) (j2.join rfl rfl) rfl
end Go.Proofs.Ytkolmkdbjagfcaa

namespace Go.Proofs.Ytkolmkdbjagfcaa
open Go.Hb
attribute [local irreducible] LR CW At Ev thn blk finK noG again CallsTo DW QL dnext TW DP
set_option linter.unusedSimpArgs false
set_option linter.unusedVariables false
set_option maxRecDepth 100000

theorem q14n (bw : Nat) (o : OldC) (kin : Int) (nx : Cfg) (w : World) (h1 : inI o.cfg.mem) (h2 : inI nx.mem) (h3 : inI kin) (hm : mayC o kin nx = false) :
    CallsTo Try.prog 14 [o.val, .pointer (some ⟨bw, 0, none⟩), .int .i64 kin, nx.val] w fun v w' => v = .tuple [.slice none 0 0, .int .i64 2].toArray ∧ Grew w w' := by
  refine go_in (n := 97) (St.refl _ NoF) Try.func14 rfl rfl ?_
  repeat'(first|(apply kB;(iterate 2 exact rfl);intro _)|(apply kp;iterate 2 exact rfl)|apply jJ|(apply jE;exact rfl)|(apply jp;exact rfl)|(apply jc;kernel_rfl)|((first|apply kf|apply kn|apply ke|apply kx|apply kc|apply kb);iterate 2 exact rfl)|((first|apply kz|apply ky);(·exact rfl);(·repeat(first|exact iO|exact iR rfl|apply iT));iterate 2 exact rfl)|(apply kg;iterate 2 exact rfl)|(apply kG;iterate 3 exact rfl)|(apply kB;(iterate 2 exact rfl);intro _)|(apply kA;exact rfl;intro _)|(apply Go.Hb.kK;(iterate 4 exact rfl);intro _)|(apply kU;(iterate 2 exact rfl);(·repeat(first|exact sH _ _ _|apply sT));(first|exact nfL_eq rfl|exact rfl);exact rfl)|((first|apply kh|apply kl);(iterate 2 exact rfl);(first|decide|omega);exact rfl)|(apply kq; (· exact rfl); (· intro w1 hw1; have hq := CallsTo.q (q43 o kin nx w1 h1 h2 h3) hw1; rw [hm] at hq; exact hq))|((first|(apply kR;iterate 2 exact rfl)|(apply kQ;exact rfl));all_goals(intro hc;try simp only[hcs]at hc;try(exfalso;first|contradiction|omega))))
  (apply ret2; (· exact rfl); intro w' hS)
  exact ⟨rfl, hS.toKeep⟩
theorem q14z (o : OldC) (kin : Int) (nx : Cfg) (w : World) :
    CallsTo Try.prog 14 [o.val, .pointer none, .int .i64 kin, nx.val] w fun v w' => v = .tuple [.slice none 0 0, .int .i64 1].toArray ∧ Grew w w' := by
  refine go_in (n := 97) (St.refl _ NoF) Try.func14 rfl rfl ?_
  repeat'(first|(apply kB;(iterate 2 exact rfl);intro _)|(apply kp;iterate 2 exact rfl)|apply jJ|(apply jE;exact rfl)|(apply jp;exact rfl)|(apply jc;kernel_rfl)|((first|apply kf|apply kn|apply ke|apply kx|apply kc|apply kb);iterate 2 exact rfl)|((first|apply kz|apply ky);(·exact rfl);(·repeat(first|exact iO|exact iR rfl|apply iT));iterate 2 exact rfl)|(apply kg;iterate 2 exact rfl)|(apply kG;iterate 3 exact rfl)|(apply kB;(iterate 2 exact rfl);intro _)|(apply kA;exact rfl;intro _)|(apply Go.Hb.kK;(iterate 4 exact rfl);intro _)|(apply kU;(iterate 2 exact rfl);(·repeat(first|exact sH _ _ _|apply sT));(first|exact nfL_eq rfl|exact rfl);exact rfl)|((first|apply kh|apply kl);(iterate 2 exact rfl);(first|decide|omega);exact rfl)|((first|(apply kR;iterate 2 exact rfl)|(apply kQ;exact rfl));all_goals(intro hc;try simp only[hcs]at hc;try(exfalso;first|contradiction|omega))))
  (apply ret2; (· exact rfl); intro w' hS)
  exact ⟨rfl, hS.toKeep⟩
theorem q15n (b : Nat) (o : OldC) (kin : Int) (nx : Cfg) (w : World) (hm : mayC o kin nx = false) :
    CallsTo Try.prog 15 [o.val, .pointer (some ⟨b, 0, none⟩), .int .i64 kin, nx.val] w fun v w' => v = .tuple [.slice none 0 0, .int .i64 2].toArray ∧ Grew w w' := by
  refine go_in (n := 111) (St.refl _ NoF) Try.func15 rfl rfl ?_
  repeat'(first|(apply kB;(iterate 2 exact rfl);intro _)|(apply kp;iterate 2 exact rfl)|apply jJ|(apply jE;exact rfl)|(apply jp;exact rfl)|(apply jc;kernel_rfl)|((first|apply kf|apply kn|apply ke|apply kx|apply kc|apply kb);iterate 2 exact rfl)|((first|apply kz|apply ky);(·exact rfl);(·repeat(first|exact iO|exact iR rfl|apply iT));iterate 2 exact rfl)|(apply kg;iterate 2 exact rfl)|(apply kG;iterate 3 exact rfl)|(apply kB;(iterate 2 exact rfl);intro _)|(apply kA;exact rfl;intro _)|(apply Go.Hb.kK;(iterate 4 exact rfl);intro _)|(apply kU;(iterate 2 exact rfl);(·repeat(first|exact sH _ _ _|apply sT));(first|exact nfL_eq rfl|exact rfl);exact rfl)|((first|apply kh|apply kl);(iterate 2 exact rfl);(first|decide|omega);exact rfl)|(apply kq; (· exact rfl); (· intro w1 hw1; have hq := CallsTo.q (q47 o kin nx w1) hw1; rw [hm] at hq; exact hq))|((first|(apply kR;iterate 2 exact rfl)|(apply kQ;exact rfl));all_goals(intro hc;try simp only[hcs]at hc;try(exfalso;first|contradiction|omega))))
  (apply ret2; (· exact rfl); intro w' hS)
  exact ⟨rfl, hS.toKeep⟩
theorem e_msg {w0 w : World} {F : Nat → Prop} {R : List Asrt} {l : List EvA} {x : DaA} (h : St w0 F (x.body :: bunE l :: R) w) : St w0 F (bunE (l ++ tellA x) :: R) w := by
  unfold tellA
  split
  · rw [List.append_nil]; exact h.tail1
  · have h1 : St w0 F ((msgA x).body :: bunE l :: R) w := h
    exact h1.bun_snoc EvA.dep EvA.ex
structure Rst where
  n : Int
  l : List EvA
  a : Option Addr
  c : Nat
structure Sst2 where
  k : Nat
  l : List EvA
  a : Option Addr
  c : Nat
  g : Bool
set_option maxHeartbeats 8000000 in
theorem q15 (b : Nat) (a0 : Option Addr) (c0 : Nat) (es : List DaA) (top : Int) (o : OldC) (kin : Int) (nx : Cfg) (w : World) (h : (vO b a0 c0 es top).holds w) (hD : WOk (dats es)) (hl : es.length ≤ 1000) (hi : inI o.done) (hm : mayC o kin nx = true) :
    CallsTo Try.prog 15 [o.val, .pointer (some ⟨b, 0, none⟩), .int .i64 kin, nx.val] w fun v w' => ∃ a' c' l', v = .tuple [.slice a' l'.length c', .int .i64 0].toArray ∧ l'.map EvA.e = toldT (dats es) o.done o.safe kin (trC o kin nx) (nxC nx) ∧ l'.length ≤ 10000 ∧ New1 (eO a' c' l') w w' := by
  refine go_in (n := 111) (vO_in h) Try.func15 rfl rfl ?_
  repeat'(first|(apply kB;(iterate 2 exact rfl);intro _)|(apply kp;iterate 2 exact rfl)|apply jJ|(apply jE;exact rfl)|(apply jp;exact rfl)|(apply jc;kernel_rfl)|((first|apply kf|apply kn|apply ke|apply kx|apply kc|apply kb);iterate 2 exact rfl)|((first|apply kz|apply ky);(·exact rfl);(·repeat(first|exact iO|exact iR rfl|apply iT));iterate 2 exact rfl)|(apply kg;iterate 2 exact rfl)|(apply kG;iterate 3 exact rfl)|(apply kB;(iterate 2 exact rfl);intro _)|(apply kA;exact rfl;intro _)|(apply Go.Hb.kK;(iterate 4 exact rfl);intro _)|(apply kU;(iterate 2 exact rfl);(·repeat(first|exact sH _ _ _|apply sT));(first|exact nfL_eq rfl|exact rfl);exact rfl)|((first|apply kh|apply kl);(iterate 2 exact rfl);(first|decide|omega);exact rfl)|(apply kq; (· exact rfl); (· intro w1 hw1; have hq := CallsTo.q (q47 o kin nx w1) hw1; rw [hm] at hq; exact hq))|((first|(apply kR;iterate 2 exact rfl)|(apply kQ;exact rfl));all_goals(intro hc;try simp only[hcs]at hc;try(exfalso;first|contradiction|omega))))
  rename_i b4 b7
  have hdone : 0 ≤ o.done := by
    unfold mayC at hm
    simp only [Bool.and_eq_true, decide_eq_true_eq] at hm
    exact hm.1.1.1.2
  have hdone2 := hi.2
  obtain ⟨TT, hTT⟩ : ∃ TT, progT o.safe kin (cfgE (trC o kin nx)) o.done false false (abvT (dats es) o.done) = TT := ⟨_, rfl⟩
  have htold : toldT (dats es) o.done o.safe kin (trC o kin nx) (nxC nx) = TT ++ [cfgE (nxC nx)] := by
    unfold toldT
    rw [← hTT]
  rw [htold]
  clear htold
  have hab : ∀ n, (abvT (dats es) n).length ≤ es.length := fun n => by
    have h5 := abvS_len (dats es) n (sqs (dats es))
    rw [sqs_len, dats_len] at h5
    exact h5
  have hhas : ∀ s, hasD (dats es) s = true → 1 ≤ s ∧ s ≤ 9007199254740991 := fun s hs => by
    obtain ⟨y, hy, e⟩ := has_iff.1 hs
    have := hD.rng y hy
    omega
  apply CW.loop [10, 11, 12, 13, 24, 25, 26, 27, 28, 29, 30, 31, 32, 33, 34, 35, 36, 37, 38, 39, 40, 41, 42, 43, 44, 45, 46, 47, 48, 49] (fun s : Rst => o.done ≤ s.n ∧ s.n ≤ 9223372036854775807 ∧ s.l.length + (abvT (dats es) s.n).length ≤ es.length ∧ s.l.map EvA.e ++ progT o.safe kin (cfgE (trC o kin nx)) s.n false false (abvT (dats es) s.n) = TT) (fun s => [(11, .int .i64 s.n), (10, .slice s.a s.l.length s.c)])
    (fun s => St w NoF [bunE s.l, eS s.a s.c s.l, .own b7 (.cells nx.cells.toArray 25 (0, 0)), .own b4 (.cells o.cells.toArray 49 (0, 0)), vR b a0 c0 es top]) (fun s => (9223372036854775807 - s.n).toNat)
  · intro w' hw'
    refine ⟨⟨o.done, [], none, 0⟩, ⟨by simp, hdone2, by simpa using hab _, hTT⟩, ⟨rfl, rfl, trivial⟩, ?_⟩
    exact (hw'.nilsl 52 26).bun_nil EvA.dep
  rintro ⟨n, l, a, c⟩ g1 ⟨hn0, hn1, hll, hinv⟩
  simp only at hn0 hn1 hll hinv ⊢
  cases hx : hasD (dats es) (n + 1)
  focus
    have hx2 : hasD (dats es) (IntKind.i64.wrap (n + 1)) = false := by
      rcases Int.lt_or_le n 9223372036854775807 with hlt | hge
      · rw [wrap_i64 (by omega) (by omega)]
        exact hx
      · have e : n = 9223372036854775807 := by omega
        subst e
        cases hy : hasD (dats es) (IntKind.i64.wrap (9223372036854775807 + 1)) with
        | false => rfl
        | true =>
          have := hhas _ hy
          have e2 : IntKind.i64.wrap (9223372036854775807 + 1) = -9223372036854775808 := by decide
          omega
    have hstop : stopB (dats es) o.safe n = true := by unfold stopB; rw [hx]; rfl
    repeat'(first|(apply kp;iterate 2 exact rfl)|apply jJ|(apply jE;exact rfl)|(apply jp;exact rfl)|(apply jc;kernel_rfl)|((first|apply kf|apply kn|apply ke|apply kx|apply kc|apply kb);iterate 2 exact rfl)|((first|apply kz|apply ky);(·exact rfl);(·repeat(first|exact iO|exact iR rfl|apply iT));iterate 2 exact rfl)|(apply kg;iterate 2 exact rfl)|(apply kG;iterate 3 exact rfl)|(apply kB;(iterate 2 exact rfl);intro _)|(apply kA;exact rfl;intro _)|(apply Go.Hb.kK;(iterate 4 exact rfl);intro _)|(apply kU;(iterate 2 exact rfl);(·repeat(first|exact sH _ _ _|apply sT));(first|exact nfL_eq rfl|exact rfl);exact rfl)|((first|apply kh|apply kl);(iterate 2 exact rfl);(first|decide|omega);exact rfl)|(apply LR.ev; (· apply Ev.addW; (· exact rfl); (· exact rfl)); (· exact rfl))|(apply LR.call; (· exact rfl); (intro w1 hw1; have ht := t33 b a0 c0 es top (IntKind.i64.wrap (n + 1)) w1 (v_out hw1 (by (repeat (first | exact mH _ _ | apply mT)))) hD (by omega); rw [hx2] at ht; refine ht.mono ?_; rintro v w2 ⟨a2, c2, rfl, hn⟩; refine LR.back (hw1.newSl hn) ?_; clear hn hw1 ht))|((first|(apply kR;iterate 2 exact rfl)|(apply kQ;exact rfl));all_goals(intro hc;try simp only[hcs]at hc;try(exfalso;first|contradiction|omega))))
  rotate_left
  focus
    have hnb := hhas _ hx
    repeat'(first|(apply kp;iterate 2 exact rfl)|apply jJ|(apply jE;exact rfl)|(apply jp;exact rfl)|(apply jc;kernel_rfl)|((first|apply kf|apply kn|apply ke|apply kx|apply kc|apply kb);iterate 2 exact rfl)|((first|apply kz|apply ky);(·exact rfl);(·repeat(first|exact iO|exact iR rfl|apply iT));iterate 2 exact rfl)|(apply kg;iterate 2 exact rfl)|(apply kG;iterate 3 exact rfl)|(apply kB;(iterate 2 exact rfl);intro _)|(apply kA;exact rfl;intro _)|(apply Go.Hb.kK;(iterate 4 exact rfl);intro _)|(apply kU;(iterate 2 exact rfl);(·repeat(first|exact sH _ _ _|apply sT));(first|exact nfL_eq rfl|exact rfl);exact rfl)|((first|apply kh|apply kl);(iterate 2 exact rfl);(first|decide|omega);exact rfl)|(apply addX;(iterate 2 exact rfl);(iterate 2(first|omega|(dsimp only;omega)));exact rfl)|(apply LR.call; (· exact rfl); (intro w1 hw1; have ht := t33 b a0 c0 es top (n + 1) w1 (v_out hw1 (by (repeat (first | exact mH _ _ | apply mT)))) hD (by omega); rw [hx] at ht; refine ht.mono ?_; rintro v w2 ⟨a2, c2, rfl, hn⟩; refine LR.back (hw1.newSl hn) ?_; clear hn hw1 ht))|(apply LR.call; (· exact rfl); (intro w1 hw1; refine (q48 a c l ⟨getT (dats es) (n + 1), a2, c2⟩ w1 (hw1.holds (eS a c l) (by (repeat (first | exact mH _ _ | apply mT)))) (by omega)).mono ?_; rintro v w2 ⟨a4, c4, rfl, hst⟩; apply LR.back; (· exact St.did hw1 (by (repeat (first | exact sH _ _ _ | apply sT))) rfl hst (osl.dep _ _ _ _ _)); clear hst hw1))|((first|(apply kR;iterate 2 exact rfl)|(apply kQ;exact rfl));all_goals(intro hc;try simp only[hcs]at hc;try(exfalso;first|contradiction|omega))))
    rotate_left
    focus
      · have hst0 : stopB (dats es) o.safe n = false := by
          unfold stopB
          rw [hx, Bool.not_true, Bool.false_or]
          rw [show decide (o.safe < n + 1) = false from decide_eq_false (by omega), Bool.and_false]
        rw [prog_step hD hst0] at hinv
        have hab2 := congrArg List.length (abv_head hD hx)
        rw [List.length_cons] at hab2
        have htl := tellA_len ⟨getT (dats es) (n + 1), a2, c2⟩
        refine At.again (⟨n + 1, l ++ tellA ⟨getT (dats es) (n + 1), a2, c2⟩, a4, c4⟩ : Rst) ⟨by simp only; omega, by simp only; omega, by simp only [List.length_append]; omega, ?_⟩ ?_ ⟨rfl, rfl, trivial⟩ (fun w' hw' => ?_) (by simp only; omega)
        · rw [List.map_append, tellA_e, List.append_assoc]
          exact hinv
        · (repeat (first | exact Out.refl _ _ | exact Out.mix | (apply Out.upd; (· exact rfl)) | (apply Out.updL; (· exact rfl)) | (apply Out.mixs; (· exact rfl))))
        · have j1 : St w NoF [(⟨getT (dats es) (n + 1), a2, c2⟩ : DaA).body, bunE l, eS a4 c4 (l ++ tellA ⟨getT (dats es) (n + 1), a2, c2⟩), .own b7 (.cells nx.cells.toArray 25 (0, 0)), .own b4 (.cells o.cells.toArray 49 (0, 0)), vR b a0 c0 es top] w' := hw'.sub (by (repeat (first | exact List.Sublist.refl _ | apply List.Sublist.cons_cons | apply List.Sublist.cons)))
          exact e_msg j1

    focus
      · have hst0 : stopB (dats es) o.safe n = false := by
          unfold stopB
          rw [hx, Bool.not_true, Bool.false_or]
          rw [show (getT (dats es) (n + 1)).msg.safe = false by assumption, Bool.false_and]
        rw [prog_step hD hst0] at hinv
        have hab2 := congrArg List.length (abv_head hD hx)
        rw [List.length_cons] at hab2
        have htl := tellA_len ⟨getT (dats es) (n + 1), a2, c2⟩
        refine At.again (⟨n + 1, l ++ tellA ⟨getT (dats es) (n + 1), a2, c2⟩, a4, c4⟩ : Rst) ⟨by simp only; omega, by simp only; omega, by simp only [List.length_append]; omega, ?_⟩ ?_ ⟨rfl, rfl, trivial⟩ (fun w' hw' => ?_) (by simp only; omega)
        · rw [List.map_append, tellA_e, List.append_assoc]
          exact hinv
        · (repeat (first | exact Out.refl _ _ | exact Out.mix | (apply Out.upd; (· exact rfl)) | (apply Out.updL; (· exact rfl)) | (apply Out.mixs; (· exact rfl))))
        · have j1 : St w NoF [(⟨getT (dats es) (n + 1), a2, c2⟩ : DaA).body, bunE l, eS a4 c4 (l ++ tellA ⟨getT (dats es) (n + 1), a2, c2⟩), .own b7 (.cells nx.cells.toArray 25 (0, 0)), .own b4 (.cells o.cells.toArray 49 (0, 0)), vR b a0 c0 es top] w' := hw'.sub (by (repeat (first | exact List.Sublist.refl _ | apply List.Sublist.cons_cons | apply List.Sublist.cons)))
          exact e_msg j1

    have hstop : stopB (dats es) o.safe n = true := by
      unfold stopB
      rw [hx, show (getT (dats es) (n + 1)).msg.safe = true by assumption, decide_eq_true (by assumption)]
      rfl
  all_goals
    rw [prog_stop hstop] at hinv
    have hal := hab n
    repeat'(first|(apply kp;iterate 2 exact rfl)|apply jJ|(apply jE;exact rfl)|(apply jp;exact rfl)|(apply jc;kernel_rfl)|((first|apply kf|apply kn|apply ke|apply kx|apply kc|apply kb);iterate 2 exact rfl)|((first|apply kz|apply ky);(·exact rfl);(·repeat(first|exact iO|exact iR rfl|apply iT));iterate 2 exact rfl)|(apply kg;iterate 2 exact rfl)|(apply kG;iterate 3 exact rfl)|(apply kB;(iterate 2 exact rfl);intro _)|(apply kA;exact rfl;intro _)|(apply Go.Hb.kK;(iterate 4 exact rfl);intro _)|(apply kU;(iterate 2 exact rfl);(·repeat(first|exact sH _ _ _|apply sT));(first|exact nfL_eq rfl|exact rfl);exact rfl)|((first|apply kh|apply kl);(iterate 2 exact rfl);(first|decide|omega);exact rfl)|(apply LR.append (xs := l.flatMap EvA.row) (news := (cfgA (trC o kin nx)).row) (m := 1); (· exact rfl); (· exact rfl); (· intro a' c'; (repeat (first | exact sH _ _ _ | apply sT))); (· exact fun w' hw' => hw'.rd_of_blk (mH _ _)); (· exact fun hx => by cases hx); (· exact rfl); (· exact ev_one _); (· omega); (· unfold maxLen; omega); (· exact rfl); (intro a5 c5))|(apply LR.call; (· exact rfl); (intro w1 hw1; refine (t42 b a0 c0 es top n w1 (v_out hw1 (by (repeat (first | exact mH _ _ | apply mT)))) hD (by omega)).mono ?_; rintro v w2 ⟨a6, c6, o5, rfl, ho5, hn⟩; refine LR.back (hw1.got hn (dO_dep _ _ _)) ?_; clear hn hw1))|((first|(apply kR;iterate 2 exact rfl)|(apply kQ;exact rfl));all_goals(intro hc;try simp only[hcs]at hc;try(exfalso;first|contradiction|omega))))
  all_goals
    have hol5 : o5.length ≤ 1000 := by
      have h4 := congrArg List.length ho5
      rw [dats_len] at h4
      omega
    have hrg : ∀ d ∈ dats o5, n < d.seq ∧ d.seq ≤ 9007199254740991 := fun d hd => by
      rw [ho5] at hd
      have j1 := abv_gt hd
      have j2 := hhas _ j1.2.1
      omega
    rw [← ho5] at hinv
    have hlen : l.length + 1 = (l ++ [cfgA (trC o kin nx)]).length := by simp
    apply CW.loop [10, 15, 16, 64, 65, 66, 67, 68, 69, 70, 71, 72, 73, 74, 75, 76, 77, 78, 79, 80, 81, 82, 83, 84, 85, 86, 87, 88, 89, 90, 91, 92, 93, 94, 95, 96, 97, 98, 99] (fun s : Sst2 => s.k ≤ o5.length ∧ s.l.length ≤ es.length + 1 + s.k ∧ s.l.map EvA.e ++ tailT kin n s.k s.g ((dats o5).drop s.k) = TT) (fun s => [(16, .int .i64 (s.k : Int)), (10, .slice s.a s.l.length s.c), (15, .bool s.g)])
      (fun s => St w NoF [bunE s.l, bunD (o5.drop s.k), eS s.a s.c s.l, dS a6 c6 o5, .own b7 (.cells nx.cells.toArray 25 (0, 0)), .own b4 (.cells o.cells.toArray 49 (0, 0)), vR b a0 c0 es top]) (fun s => o5.length - s.k)
    · intro w' hw'
      refine ⟨⟨0, l ++ [cfgA (trC o kin nx)], a5, c5, false⟩, ⟨by simp, by simp only [List.length_append, List.length_cons, List.length_nil]; omega, ?_⟩, ⟨rfl, ?_, rfl, trivial⟩, ?_⟩
      · rw [List.map_append, List.append_assoc]
        exact hinv
      · show Value.slice a5 (l.length + 1) c5 = _
        rw [hlen]
      · have j0 := hw'
        rw [eS_snoc] at j0
        have j1 : St w NoF [dO a6 c6 o5, bunE l, eS a5 c5 (l ++ [cfgA (trC o kin nx)]), .own b7 (.cells nx.cells.toArray 25 (0, 0)), .own b4 (.cells o.cells.toArray 49 (0, 0)), vR b a0 c0 es top] w' := j0.sub (by (repeat (first | exact List.Sublist.refl _ | apply List.Sublist.cons_cons | apply List.Sublist.cons)))
        have j2 : St w NoF [bunE l, dS a6 c6 o5, bunD o5, eS a5 c5 (l ++ [cfgA (trC o kin nx)]), .own b7 (.cells nx.cells.toArray 25 (0, 0)), .own b4 (.cells o.cells.toArray 49 (0, 0)), vR b a0 c0 es top] w' := front (j1.part (osl.dep _ _ _ _ _) (bun_dep DaA.dep o5)) 2 rfl rfl
        have j3 := e_cfg (g := trC o kin nx) j2
        exact front (front (front (front j3 1 rfl rfl) 3 rfl rfl) 3 rfl rfl) 3 rfl rfl
    rintro ⟨k, l2, a, c, g⟩ g5 ⟨hk, hlk, hinv2⟩
    simp only at hk hlk hinv2 ⊢
    clear hinv
    by_cases hlt : k < o5.length
    · have hx5 := hrg o5[k].d (List.mem_map_of_mem (List.getElem_mem hlt))
      have htl := tellA_len o5[k]
      have hdrop : o5.drop k = o5[k] :: o5.drop (k + 1) := List.drop_eq_getElem_cons hlt
      have hdd : (dats o5).drop k = o5[k].d :: (dats o5).drop (k + 1) := by
        unfold dats
        rw [← List.map_drop, hdrop, List.map_cons, List.map_drop]
      rw [hdd, tailT] at hinv2
      refine LR_cls_cw fun w1 hw1 => ?_
      obtain ⟨bg, og, rfl⟩ := (hw1.rd_of_own (a := a6) (n := o5.length) (by (repeat (first | exact mH _ _ | apply mT)))).form (rows_ne DaA.row_len (by decide) hlt)
      refine CW.sub (D := St w NoF _) ?_ (fun u e => e ▸ hw1)
      clear hw1 w1
      cases g
      all_goals
        repeat'(first|(apply kp;iterate 2 exact rfl)|apply jJ|(apply jE;exact rfl)|(apply jp;exact rfl)|(apply jc;kernel_rfl)|((first|apply kf|apply kn|apply ke|apply kx|apply kc|apply kb);iterate 2 exact rfl)|((first|apply kz|apply ky);(·exact rfl);(·repeat(first|exact iO|exact iR rfl|apply iT));iterate 2 exact rfl)|(apply kg;iterate 2 exact rfl)|(apply kG;iterate 3 exact rfl)|(apply kB;(iterate 2 exact rfl);intro _)|(apply kA;exact rfl;intro _)|(apply Go.Hb.kK;(iterate 4 exact rfl);intro _)|(apply kU;(iterate 2 exact rfl);(·repeat(first|exact sH _ _ _|apply sT));(first|exact nfL_eq rfl|exact rfl);exact rfl)|((first|apply kh|apply kl);(iterate 2 exact rfl);(first|decide|omega);exact rfl)|(apply idxX;(iterate 2 exact rfl);(iterate 2(first|omega|(dsimp only;omega)));exact rfl)|(apply addX;(iterate 2 exact rfl);(iterate 2(first|omega|(dsimp only;omega)));exact rfl)|(apply LR.ev; (· first | (apply Ev.load; (· exact rfl); (· exact fun w' hw' => row_cell DaA.row_len (hw'.rd_of_own (n := o5.length) (by (repeat (first | exact mH _ _ | apply mT)))) hlt 2 rfl (by omega))) | (apply Ev.load; (· exact rfl); (· exact fun w' hw' => row_cell DaA.row_len (hw'.rd_of_own (n := o5.length) (by (repeat (first | exact mH _ _ | apply mT)))) hlt 3 rfl (by omega))) | (apply Ev.load_agg_at (cs := o5[k].row); (· exact rfl); (· exact rfl); (· intro w' hw'; exact rd_row DaA.row_len (hw'.rd_of_own (n := o5.length) (by (repeat (first | exact mH _ _ | apply mT)))) hlt (by omega)))); (· exact rfl))|(apply kq; (· exact rfl); (· intro w1 hw1; show CallsTo Try.prog 50 [.int .i64 kin, .int .i64 o5[k].d.sender] w1 _; exact CallsTo.q (q50 kin o5[k].d.sender w1) hw1))|(apply LR.call; (· exact rfl); (intro w1 hw1; refine (q48 a c l2 o5[k] w1 (hw1.holds (eS a c l2) (by (repeat (first | exact mH _ _ | apply mT)))) (by omega)).mono ?_; rintro v w2 ⟨a8, c8, rfl, hst⟩; apply LR.back; (· exact St.did hw1 (by (repeat (first | exact sH _ _ _ | apply sT))) rfl hst (osl.dep _ _ _ _ _)); clear hst hw1))|((first|(apply kR;iterate 2 exact rfl)|(apply kQ;exact rfl));all_goals(intro hc;try simp only[hcs]at hc;try(exfalso;first|contradiction|omega))))
      · refine At.again (⟨k + 1, l2 ++ tellA o5[k], a8, c8, (!decide (o5[k].d.seq = n + 1 + (k : Int)))⟩ : Sst2) ⟨by simp only; omega, by simp only [List.length_append]; omega, ?_⟩ ?_ ⟨rfl, rfl, rfl, trivial⟩ (fun w' hw' => ?_) (by simp only; omega)
        · have hh := hinv2
          simp [show o5[k].d.seq = n + 1 + (k : Int) by assumption] at hh
          simpa [tellA_e, List.append_assoc, show o5[k].d.seq = n + 1 + (k : Int) by assumption] using hh
        · (repeat (first | exact Out.refl _ _ | exact Out.mix | (apply Out.upd; (· exact rfl)) | (apply Out.updL; (· exact rfl)) | (apply Out.mixs; (· exact rfl))))
        · have j1 : St w NoF [bunE l2, bunD (o5.drop k), eS a8 c8 (l2 ++ tellA o5[k]), dS (some ⟨bg, og, none⟩) c6 o5, .own b7 (.cells nx.cells.toArray 25 (0, 0)), .own b4 (.cells o.cells.toArray 49 (0, 0)), vR b a0 c0 es top] w' := hw'.sub (by (repeat (first | exact List.Sublist.refl _ | apply List.Sublist.cons_cons | apply List.Sublist.cons)))
          have j2 := front j1 1 rfl rfl
          rw [hdrop] at j2
          exact e_t j2
      · refine At.again (⟨k + 1, l2 ++ tellA o5[k], a8, c8, (!decide (o5[k].d.seq = n + 1 + (k : Int)))⟩ : Sst2) ⟨by simp only; omega, by simp only [List.length_append]; omega, ?_⟩ ?_ ⟨rfl, rfl, rfl, trivial⟩ (fun w' hw' => ?_) (by simp only; omega)
        · have hh := hinv2
          simp [show ¬ o5[k].d.seq = n + 1 + (k : Int) by assumption, show hasC kin o5[k].d.sender = true by assumption] at hh
          simpa [tellA_e, List.append_assoc, show ¬ o5[k].d.seq = n + 1 + (k : Int) by assumption, show hasC kin o5[k].d.sender = true by assumption] using hh
        · (repeat (first | exact Out.refl _ _ | exact Out.mix | (apply Out.upd; (· exact rfl)) | (apply Out.updL; (· exact rfl)) | (apply Out.mixs; (· exact rfl))))
        · have j1 : St w NoF [bunE l2, bunD (o5.drop k), eS a8 c8 (l2 ++ tellA o5[k]), dS (some ⟨bg, og, none⟩) c6 o5, .own b7 (.cells nx.cells.toArray 25 (0, 0)), .own b4 (.cells o.cells.toArray 49 (0, 0)), vR b a0 c0 es top] w' := hw'.sub (by (repeat (first | exact List.Sublist.refl _ | apply List.Sublist.cons_cons | apply List.Sublist.cons)))
          have j2 := front j1 1 rfl rfl
          rw [hdrop] at j2
          exact e_t j2
      · refine At.again (⟨k + 1, l2, a, c, (!decide (o5[k].d.seq = n + 1 + (k : Int)))⟩ : Sst2) ⟨by simp only; omega, by simp only [List.length_append]; omega, ?_⟩ ?_ ⟨rfl, rfl, rfl, trivial⟩ (fun w' hw' => ?_) (by simp only; omega)
        · have hh := hinv2
          simp [show ¬ o5[k].d.seq = n + 1 + (k : Int) by assumption, show hasC kin o5[k].d.sender = false by assumption] at hh
          simpa [tellA_e, List.append_assoc, show ¬ o5[k].d.seq = n + 1 + (k : Int) by assumption, show hasC kin o5[k].d.sender = false by assumption] using hh
        · (repeat (first | exact Out.refl _ _ | exact Out.mix | (apply Out.upd; (· exact rfl)) | (apply Out.updL; (· exact rfl)) | (apply Out.mixs; (· exact rfl))))
        · have j1 : St w NoF [bunE l2, bunD (o5.drop k), eS a c (l2), dS (some ⟨bg, og, none⟩) c6 o5, .own b7 (.cells nx.cells.toArray 25 (0, 0)), .own b4 (.cells o.cells.toArray 49 (0, 0)), vR b a0 c0 es top] w' := hw'.sub (by (repeat (first | exact List.Sublist.refl _ | apply List.Sublist.cons_cons | apply List.Sublist.cons)))
          have j2 := front j1 1 rfl rfl
          rw [hdrop] at j2
          exact e_0 j2
      · refine At.again (⟨k + 1, l2 ++ tellA o5[k], a8, c8, true⟩ : Sst2) ⟨by simp only; omega, by simp only [List.length_append]; omega, ?_⟩ ?_ ⟨rfl, rfl, rfl, trivial⟩ (fun w' hw' => ?_) (by simp only; omega)
        · have hh := hinv2
          simp [show hasC kin o5[k].d.sender = true by assumption] at hh
          simpa [tellA_e, List.append_assoc, show hasC kin o5[k].d.sender = true by assumption] using hh
        · (repeat (first | exact Out.refl _ _ | exact Out.mix | (apply Out.upd; (· exact rfl)) | (apply Out.updL; (· exact rfl)) | (apply Out.mixs; (· exact rfl))))
        · have j1 : St w NoF [bunE l2, bunD (o5.drop k), eS a8 c8 (l2 ++ tellA o5[k]), dS (some ⟨bg, og, none⟩) c6 o5, .own b7 (.cells nx.cells.toArray 25 (0, 0)), .own b4 (.cells o.cells.toArray 49 (0, 0)), vR b a0 c0 es top] w' := hw'.sub (by (repeat (first | exact List.Sublist.refl _ | apply List.Sublist.cons_cons | apply List.Sublist.cons)))
          have j2 := front j1 1 rfl rfl
          rw [hdrop] at j2
          exact e_t j2
      · refine At.again (⟨k + 1, l2, a, c, true⟩ : Sst2) ⟨by simp only; omega, by simp only [List.length_append]; omega, ?_⟩ ?_ ⟨rfl, rfl, rfl, trivial⟩ (fun w' hw' => ?_) (by simp only; omega)
        · have hh := hinv2
          simp [show hasC kin o5[k].d.sender = false by assumption] at hh
          simpa [tellA_e, List.append_assoc, show hasC kin o5[k].d.sender = false by assumption] using hh
        · (repeat (first | exact Out.refl _ _ | exact Out.mix | (apply Out.upd; (· exact rfl)) | (apply Out.updL; (· exact rfl)) | (apply Out.mixs; (· exact rfl))))
        · have j1 : St w NoF [bunE l2, bunD (o5.drop k), eS a c (l2), dS (some ⟨bg, og, none⟩) c6 o5, .own b7 (.cells nx.cells.toArray 25 (0, 0)), .own b4 (.cells o.cells.toArray 49 (0, 0)), vR b a0 c0 es top] w' := hw'.sub (by (repeat (first | exact List.Sublist.refl _ | apply List.Sublist.cons_cons | apply List.Sublist.cons)))
          have j2 := front j1 1 rfl rfl
          rw [hdrop] at j2
          exact e_0 j2
    · have hke : k = o5.length := by omega
      subst hke
      rw [List.drop_of_length_le (by rw [dats_len]; exact Nat.le_refl _)] at hinv2
      have hinv3 : l2.map EvA.e = TT := by rw [← hinv2]; simp [tailT]
      repeat'(first|(apply kp;iterate 2 exact rfl)|apply jJ|(apply jE;exact rfl)|(apply jp;exact rfl)|(apply jc;kernel_rfl)|((first|apply kf|apply kn|apply ke|apply kx|apply kc|apply kb);iterate 2 exact rfl)|((first|apply kz|apply ky);(·exact rfl);(·repeat(first|exact iO|exact iR rfl|apply iT));iterate 2 exact rfl)|(apply kg;iterate 2 exact rfl)|(apply kG;iterate 3 exact rfl)|(apply kB;(iterate 2 exact rfl);intro _)|(apply kA;exact rfl;intro _)|(apply Go.Hb.kK;(iterate 4 exact rfl);intro _)|(apply kU;(iterate 2 exact rfl);(·repeat(first|exact sH _ _ _|apply sT));(first|exact nfL_eq rfl|exact rfl);exact rfl)|((first|apply kh|apply kl);(iterate 2 exact rfl);(first|decide|omega);exact rfl)|(apply LR.append (xs := l2.flatMap EvA.row) (news := (cfgA (nxC nx)).row) (m := 1); (· exact rfl); (· exact rfl); (· intro a' c'; (repeat (first | exact sH _ _ _ | apply sT))); (· exact fun w' hw' => hw'.rd_of_blk (mH _ _)); (· exact fun hx => by cases hx); (· exact rfl); (· exact ev_one _); (· omega); (· unfold maxLen; omega); (· exact rfl); (intro a9 c9))|((first|(apply kR;iterate 2 exact rfl)|(apply kQ;exact rfl));all_goals(intro hc;try simp only[hcs]at hc;try(exfalso;first|contradiction|omega))))
      (apply ret2; (· exact rfl); intro w' hS)
      rw [eS_snoc] at hS
      have j1 := e_cfg (g := nxC nx) (hS.sub (L' := [bunE l2, eS a9 c9 (l2 ++ [cfgA (nxC nx)])]) (by (repeat (first | exact List.Sublist.refl _ | apply List.Sublist.cons_cons | apply List.Sublist.cons))))
      refine ⟨a9, c9, l2 ++ [cfgA (nxC nx)], ?_, by rw [List.map_append, hinv3]; rfl, by simp only [List.length_append, List.length_cons, List.length_nil]; omega, St.new1 (R := []) ((front j1 1 rfl rfl).join rfl rfl) rfl⟩
      rw [show (l2 ++ [cfgA (nxC nx)]).length = l2.length + 1 by simp]
      rfl
end Go.Proofs.Ytkolmkdbjagfcaa

namespace Go.Proofs.Ytkolmkdbjagfcaa
open Go.Hb
set_option linter.unusedSimpArgs false
set_option linter.unusedVariables false
set_option maxRecDepth 100000

theorem Ev.cfg_same {C : World → Prop} {f : Frm} {T T'' : TypeId} {x y : Operand} {c : Cfg} (hx : f.ev x = c.val) (hy : f.ev y = c.val) : Ev Try.prog C f (.binOp .neq 25 x y T'') T (.bool false) := fun w _ d p af g => by
  have key : (do eqGuard .neq 25 x y c.val c.val; binOp .neq 25 c.val c.val : Sem Value).run Try.prog w = .ok (.bool false) w := by
    unfold Cfg.val Cfg.cells
    simp [go_sem, Sem.run_bind, run_eqGuard_agg, run_eql_struct, run_neq_struct, run_equalIn_agg, run_equalIn_int, run_equalIn_bool, Try.underlying3, Try.underlying4, Try.underlying23, Try.underlying25, Try.stoodInHeld25, Try.eqGuardType25]
  simp only [execOp, hx, hy]
  rw [Sem.run_bind, key]
  rfl
theorem Ev.cfg_eq {C : World → Prop} {f : Frm} {T T'' : TypeId} {x y : Operand} {c : Cfg} (hx : f.ev x = c.val) (hy : f.ev y = c.val) : Ev Try.prog C f (.binOp .eql 25 x y T'') T (.bool true) := fun w _ d p af g => by
  have key : (do eqGuard .eql 25 x y c.val c.val; binOp .eql 25 c.val c.val : Sem Value).run Try.prog w = .ok (.bool true) w := by
    unfold Cfg.val Cfg.cells
    simp [go_sem, Sem.run_bind, run_eqGuard_agg, run_eql_struct, run_neq_struct, run_equalIn_agg, run_equalIn_int, run_equalIn_bool, Try.underlying3, Try.underlying4, Try.underlying23, Try.underlying25, Try.stoodInHeld25, Try.eqGuardType25]
  simp only [execOp, hx, hy]
  rw [Sem.run_bind, key]
  rfl
end Go.Proofs.Ytkolmkdbjagfcaa

namespace Go.Proofs.Ytkolmkdbjagfcaa
open Go.Hb
attribute [local irreducible] LR CW At Ev thn blk finK noG again CallsTo DW QL dnext TW DP
set_option linter.unusedSimpArgs false
set_option linter.unusedVariables false
set_option maxRecDepth 100000

theorem cfg_row {e : EvA} {j : Nat} {v : Value} (h : e.cfg.cells[j]? = some v) : e.row[1 + j]? = some v := by
  show (Value.int .i64 e.kind :: (e.cfg.cells ++ e.x.row))[1 + j]? = some v
  rw [Nat.add_comm, List.getElem?_cons_succ, List.getElem?_append_left]
  · exact h
  · rcases Nat.lt_or_ge j e.cfg.cells.length with hlt | hge
    · exact hlt
    · rw [List.getElem?_eq_none hge] at h; cases h
theorem dat_row {e : EvA} {j : Nat} {v : Value} (h : e.x.row[j]? = some v) : e.row[8 + j]? = some v := by
  show (Value.int .i64 e.kind :: (e.cfg.cells ++ e.x.row))[8 + j]? = some v
  rw [show 8 + j = (7 + j) + 1 by omega, List.getElem?_cons_succ, List.getElem?_append_right (by show 7 ≤ 7 + j; omega)]
  rw [show 7 + j - e.cfg.cells.length = j by show 7 + j - 7 = j; omega]
  exact h
set_option maxHeartbeats 2000000 in
theorem q16 (a b : Option Addr) (c d : Nat) (l r : List EvA) (w : World) (hl : Rd w a (l.flatMap EvA.row)) (hr : Rd w b (r.flatMap EvA.row)) (hL : ∀ x ∈ l, Rd w x.x.a (bv x.x.d.msg.body) ∧ x.x.d.msg.body.length ≤ 140737488355328) (hR : ∀ x ∈ r, Rd w x.x.a (bv x.x.d.msg.body)) (he : l.map EvA.e = r.map EvA.e) (hm : l.length ≤ 100000) :
    CallsTo Try.prog 16 [.slice a l.length c, .slice b r.length d] w fun v w' => v = .bool true ∧ Grew w w' := by
  have hn : l.length = r.length := by have := congrArg List.length he; simpa using this
  rw [← hn]
  refine go_in (n := 55) (St.rd2 hl hr) Try.func16 rfl rfl ?_
  repeat'(first|(apply kp;iterate 2 exact rfl)|apply jJ|(apply jE;exact rfl)|(apply jp;exact rfl)|(apply jc;kernel_rfl)|((first|apply kf|apply kn|apply ke|apply kx|apply kc|apply kb);iterate 2 exact rfl)|((first|apply kz|apply ky);(·exact rfl);(·repeat(first|exact iO|exact iR rfl|apply iT));iterate 2 exact rfl)|(apply kg;iterate 2 exact rfl)|(apply kG;iterate 3 exact rfl)|(apply kB;(iterate 2 exact rfl);intro _)|(apply kA;exact rfl;intro _)|(apply Go.Hb.kK;(iterate 4 exact rfl);intro _)|(apply kU;(iterate 2 exact rfl);(·repeat(first|exact sH _ _ _|apply sT));(first|exact nfL_eq rfl|exact rfl);exact rfl)|((first|apply kh|apply kl);(iterate 2 exact rfl);(first|decide|omega);exact rfl)|((first|(apply kR;iterate 2 exact rfl)|(apply kQ;exact rfl));all_goals(intro hc;try simp only[hcs]at hc;try(exfalso;first|contradiction|omega))))
  apply CW.loop [4, 5, 11, 12, 13, 14, 15, 16, 17, 18, 19, 20, 21, 22, 23, 24, 25, 26, 27, 28, 29, 30, 31, 32, 33, 34, 35, 36, 37, 38, 39, 40, 41, 42, 43, 44, 45, 46, 47, 48, 49, 50, 51, 52, 53, 54] (fun i : Nat => i ≤ l.length) (fun i => [(5, Value.int .i64 (i : Int))]) (fun i => St w NoF [rdA a (l.flatMap EvA.row), rdA b (r.flatMap EvA.row)]) (fun i => l.length - i)
  · exact fun w' hw' => ⟨0, by simp, ⟨rfl, trivial⟩, hw'⟩
  intro i g hi
  by_cases hlt : i < l.length
  · have hlr : i < r.length := by omega
    obtain ⟨ba, oa, rfl⟩ := hl.form (rows_ne EvA.row_len (by omega) hlt)
    obtain ⟨bb, ob, rfl⟩ := hr.form (rows_ne EvA.row_len (by omega) hlr)
    have hek : l[i].e = r[i].e := by
      have := congrArg (fun z => z[i]?) he
      simpa [hlt, hlr] using this
    have hk1 : l[i].kind = r[i].kind := congrArg EvD.kind hek
    have hk2 : l[i].cfg = r[i].cfg := congrArg EvD.cfg hek
    have hk3 : l[i].x.d = r[i].x.d := congrArg EvD.dat hek
    have hx := hL _ (List.getElem_mem hlt)
    have hy := hR _ (List.getElem_mem hlr)
    have hcel : ∀ w', Rd w' (some ⟨ba, oa, none⟩) (l.flatMap EvA.row) → ∀ q m, q = oa + i * 26 + m → ∀ j v, l[i].row[m + j]? = some v → w'.cell? ((⟨ba, q, none⟩ : Addr).add j) = some v := fun w' h q m hq j v hv => by
      have e : (⟨ba, q, none⟩ : Addr).add j = ⟨ba, q + j, none⟩ := by
        unfold Addr.add
        split
        · rename_i e0; subst e0; rfl
        · rfl
      rw [e]
      exact row_cell EvA.row_len h hlt (m + j) hv (by omega)
    have hcer : ∀ w', Rd w' (some ⟨bb, ob, none⟩) (r.flatMap EvA.row) → ∀ q m, q = ob + i * 26 + m → ∀ j v, r[i].row[m + j]? = some v → w'.cell? ((⟨bb, q, none⟩ : Addr).add j) = some v := fun w' h q m hq j v hv => by
      have e : (⟨bb, q, none⟩ : Addr).add j = ⟨bb, q + j, none⟩ := by
        unfold Addr.add
        split
        · rename_i e0; subst e0; rfl
        · rfl
      rw [e]
      exact row_cell EvA.row_len h hlr (m + j) hv (by omega)
    repeat'(first|(apply CW.reg_heldC)|(apply kp;iterate 2 exact rfl)|apply jJ|(apply jE;exact rfl)|(apply jp;exact rfl)|(apply jc;kernel_rfl)|((first|apply kf|apply kn|apply ke|apply kx|apply kc|apply kb);iterate 2 exact rfl)|((first|apply kz|apply ky);(·exact rfl);(·repeat(first|exact iO|exact iR rfl|apply iT));iterate 2 exact rfl)|(apply kg;iterate 2 exact rfl)|(apply kG;iterate 3 exact rfl)|(apply kB;(iterate 2 exact rfl);intro _)|(apply kA;exact rfl;intro _)|(apply Go.Hb.kK;(iterate 4 exact rfl);intro _)|(apply kU;(iterate 2 exact rfl);(·repeat(first|exact sH _ _ _|apply sT));(first|exact nfL_eq rfl|exact rfl);exact rfl)|((first|apply kh|apply kl);(iterate 2 exact rfl);(first|decide|omega);exact rfl)|((first|(apply kR;iterate 2 exact rfl)|(apply kQ;exact rfl));all_goals(intro hc;try simp only[hcs]at hc;try(exfalso;first|contradiction|omega))))
    all_goals (
      apply DW.quiet [0, 1, 2, 3, 4, 5, 6, 7, 8, 9, 10, 11, 12, 13, 14, 15, 16, 17, 18, 19, 20, 21, 22, 23, 24, 25, 26, 27, 28, 29, 30, 31, 32, 33, 34]
      · decide +kernel
      · first | exact fun _ h => h | exact fun _ h => St.sub h (by repeat (first | exact List.Sublist.refl _ | apply List.Sublist.cons_cons | apply List.Sublist.cons))
      repeat'(first|(apply yp;iterate 3 exact rfl)|(apply QL.ev;(·exact rfl);(·first|((first|apply Ez|apply Ey);(·exact rfl);(·repeat(first|exact iO|exact iR rfl|apply iT));exact rfl)|((first|apply Ev.fieldAddr|apply Ev.len|apply EqOf.eq|apply EqOf.ne|apply Ev.conv|apply Ev.buildN);exact rfl)|((first|apply Ev.shr|apply Ev.shl);(iterate 2 exact rfl);first|decide|omega));·exact rfl)|(apply QL.ev; (· exact rfl); (· first | (apply Ev.indexAddr; (· exact rfl); (· exact rfl); (· omega); (· omega)) | (apply Ev.load (v := .int .i64 l[i].kind); (· exact rfl); (· intro w' hw'; exact hcel w' (hw'.rd_of (mH _ _)) _ 0 (by omega) 0 _ rfl)) | (apply Ev.load (v := .int .i64 l[i].kind); (· exact rfl); (· intro w' hw'; exact hcer w' (hw'.rd_of (mT _ (mH _ _))) _ 0 (by omega) 0 _ (by rw [hk1]; rfl))) | (apply Ev.load_agg_at (cs := l[i].cfg.cells); (· exact rfl); (· exact rfl); (· intro w' hw' j v hv; exact hcel w' (hw'.rd_of (mH _ _)) _ 1 (by omega) j v (cfg_row hv))) | (apply Ev.load_agg_at (cs := l[i].cfg.cells); (· exact rfl); (· exact rfl); (· intro w' hw' j v hv; exact hcer w' (hw'.rd_of (mT _ (mH _ _))) _ 1 (by omega) j v (cfg_row (by rw [← hk2]; exact hv)))) | (apply Ev.load_agg_at (cs := l[i].x.row); (· exact rfl); (· exact rfl); (· intro w' hw' j v hv; exact hcel w' (hw'.rd_of (mH _ _)) _ 8 (by omega) j v (dat_row hv))) | (apply Ev.load_agg_at (cs := r[i].x.row); (· exact rfl); (· exact rfl); (· intro w' hw' j v hv; exact hcer w' (hw'.rd_of (mT _ (mH _ _))) _ 8 (by omega) j v (dat_row hv))) | (apply Ev.cfg_same (c := l[i].cfg); (· exact rfl); (· exact rfl))); (· exact rfl))|(apply QL.evg; (· exact rfl); (· exact rfl); (· exact rfl); (· first | (apply Ev.indexAddr; (· exact rfl); (· exact rfl); (· omega); (· omega)) | (apply Ev.load (v := .int .i64 l[i].kind); (· exact rfl); (· intro w' hw'; exact hcel w' (hw'.rd_of (mH _ _)) _ 0 (by omega) 0 _ rfl)) | (apply Ev.load (v := .int .i64 l[i].kind); (· exact rfl); (· intro w' hw'; exact hcer w' (hw'.rd_of (mT _ (mH _ _))) _ 0 (by omega) 0 _ (by rw [hk1]; rfl))) | (apply Ev.load_agg_at (cs := l[i].cfg.cells); (· exact rfl); (· exact rfl); (· intro w' hw' j v hv; exact hcel w' (hw'.rd_of (mH _ _)) _ 1 (by omega) j v (cfg_row hv))) | (apply Ev.load_agg_at (cs := l[i].cfg.cells); (· exact rfl); (· exact rfl); (· intro w' hw' j v hv; exact hcer w' (hw'.rd_of (mT _ (mH _ _))) _ 1 (by omega) j v (cfg_row (by rw [← hk2]; exact hv)))) | (apply Ev.load_agg_at (cs := l[i].x.row); (· exact rfl); (· exact rfl); (· intro w' hw' j v hv; exact hcel w' (hw'.rd_of (mH _ _)) _ 8 (by omega) j v (dat_row hv))) | (apply Ev.load_agg_at (cs := r[i].x.row); (· exact rfl); (· exact rfl); (· intro w' hw' j v hv; exact hcer w' (hw'.rd_of (mT _ (mH _ _))) _ 8 (by omega) j v (dat_row hv))) | (apply Ev.cfg_same (c := l[i].cfg); (· exact rfl); (· exact rfl))); (· exact rfl))|(apply yq;iterate 5 exact rfl)|(apply QL.evg;(iterate 3 exact rfl);(·first|((first|apply Ez|apply Ey);(·exact rfl);(·repeat(first|exact iO|exact iR rfl|apply iT));exact rfl)|((first|apply Ev.fieldAddr|apply Ev.len|apply EqOf.eq|apply EqOf.ne|apply Ev.conv|apply Ev.buildN);exact rfl)|((first|apply Ev.shr|apply Ev.shl);(iterate 2 exact rfl);first|decide|omega));·exact rfl)|(apply yn;iterate 4 exact rfl)|((apply QL.split;iterate 3 exact rfl);all_goals(intro hc;try simp only[hcs]at hc;try(exfalso;first|contradiction|omega)))|apply QL.nil)
      all_goals (show DW _ _ _ _ _ _ _ _))
    all_goals (
      apply DW.loud 35
      · exact rfl
      · decide +kernel
      repeat'(first|(apply kg;iterate 2 exact rfl)|(apply kG;iterate 3 exact rfl)|apply kM|(apply kp;iterate 2 exact rfl)|((first|apply kz|apply ky);(·exact rfl);(·repeat(first|exact iO|exact iR rfl|apply iT));iterate 2 exact rfl)|(apply Go.Hb.kK;(iterate 4 exact rfl);intro _)|(apply kU;(iterate 2 exact rfl);(·repeat(first|exact sH _ _ _|apply sT));(first|exact nfL_eq rfl|exact rfl);exact rfl)|(apply kB;(iterate 2 exact rfl);intro _)|(apply kA;exact rfl;intro _)|(apply kq; (· exact rfl); (· intro w1 h1; have hq := CallsTo.q (c84 l[i].x.d r[i].x.d l[i].x.a r[i].x.a l[i].x.c r[i].x.c w1 (h1.oldRd hx.1) (h1.oldRd hy) hx.2) h1; rw [show sameD l[i].x.d r[i].x.d = true by rw [hk3]; exact sameD_self _] at hq; show CallsTo Try.prog 51 [l[i].x.d.val l[i].x.a l[i].x.c, r[i].x.d.val r[i].x.a r[i].x.c] w1 _; exact hq)))
      all_goals (refine At.stage_same (fun _ h => St.sub h (by repeat (first | exact List.Sublist.refl _ | apply List.Sublist.cons_cons | apply List.Sublist.cons))) ?_))
    all_goals (
      apply DW.quiet [36, 37]
      · decide +kernel
      · first | exact fun _ h => h | exact fun _ h => St.sub h (by repeat (first | exact List.Sublist.refl _ | apply List.Sublist.cons_cons | apply List.Sublist.cons))
      repeat'(first|(apply yp;iterate 3 exact rfl)|(apply QL.ev;(·exact rfl);(·first|((first|apply Ez|apply Ey);(·exact rfl);(·repeat(first|exact iO|exact iR rfl|apply iT));exact rfl)|((first|apply Ev.fieldAddr|apply Ev.len|apply EqOf.eq|apply EqOf.ne|apply Ev.conv|apply Ev.buildN);exact rfl)|((first|apply Ev.shr|apply Ev.shl);(iterate 2 exact rfl);first|decide|omega));·exact rfl)|(apply QL.ev; (· exact rfl); (· first | (apply Ev.indexAddr; (· exact rfl); (· exact rfl); (· omega); (· omega)) | (apply Ev.load (v := .int .i64 l[i].kind); (· exact rfl); (· intro w' hw'; exact hcel w' (hw'.rd_of (mH _ _)) _ 0 (by omega) 0 _ rfl)) | (apply Ev.load (v := .int .i64 l[i].kind); (· exact rfl); (· intro w' hw'; exact hcer w' (hw'.rd_of (mT _ (mH _ _))) _ 0 (by omega) 0 _ (by rw [hk1]; rfl))) | (apply Ev.load_agg_at (cs := l[i].cfg.cells); (· exact rfl); (· exact rfl); (· intro w' hw' j v hv; exact hcel w' (hw'.rd_of (mH _ _)) _ 1 (by omega) j v (cfg_row hv))) | (apply Ev.load_agg_at (cs := l[i].cfg.cells); (· exact rfl); (· exact rfl); (· intro w' hw' j v hv; exact hcer w' (hw'.rd_of (mT _ (mH _ _))) _ 1 (by omega) j v (cfg_row (by rw [← hk2]; exact hv)))) | (apply Ev.load_agg_at (cs := l[i].x.row); (· exact rfl); (· exact rfl); (· intro w' hw' j v hv; exact hcel w' (hw'.rd_of (mH _ _)) _ 8 (by omega) j v (dat_row hv))) | (apply Ev.load_agg_at (cs := r[i].x.row); (· exact rfl); (· exact rfl); (· intro w' hw' j v hv; exact hcer w' (hw'.rd_of (mT _ (mH _ _))) _ 8 (by omega) j v (dat_row hv))) | (apply Ev.cfg_same (c := l[i].cfg); (· exact rfl); (· exact rfl))); (· exact rfl))|(apply QL.evg; (· exact rfl); (· exact rfl); (· exact rfl); (· first | (apply Ev.indexAddr; (· exact rfl); (· exact rfl); (· omega); (· omega)) | (apply Ev.load (v := .int .i64 l[i].kind); (· exact rfl); (· intro w' hw'; exact hcel w' (hw'.rd_of (mH _ _)) _ 0 (by omega) 0 _ rfl)) | (apply Ev.load (v := .int .i64 l[i].kind); (· exact rfl); (· intro w' hw'; exact hcer w' (hw'.rd_of (mT _ (mH _ _))) _ 0 (by omega) 0 _ (by rw [hk1]; rfl))) | (apply Ev.load_agg_at (cs := l[i].cfg.cells); (· exact rfl); (· exact rfl); (· intro w' hw' j v hv; exact hcel w' (hw'.rd_of (mH _ _)) _ 1 (by omega) j v (cfg_row hv))) | (apply Ev.load_agg_at (cs := l[i].cfg.cells); (· exact rfl); (· exact rfl); (· intro w' hw' j v hv; exact hcer w' (hw'.rd_of (mT _ (mH _ _))) _ 1 (by omega) j v (cfg_row (by rw [← hk2]; exact hv)))) | (apply Ev.load_agg_at (cs := l[i].x.row); (· exact rfl); (· exact rfl); (· intro w' hw' j v hv; exact hcel w' (hw'.rd_of (mH _ _)) _ 8 (by omega) j v (dat_row hv))) | (apply Ev.load_agg_at (cs := r[i].x.row); (· exact rfl); (· exact rfl); (· intro w' hw' j v hv; exact hcer w' (hw'.rd_of (mT _ (mH _ _))) _ 8 (by omega) j v (dat_row hv))) | (apply Ev.cfg_same (c := l[i].cfg); (· exact rfl); (· exact rfl))); (· exact rfl))|(apply yq;iterate 5 exact rfl)|(apply QL.evg;(iterate 3 exact rfl);(·first|((first|apply Ez|apply Ey);(·exact rfl);(·repeat(first|exact iO|exact iR rfl|apply iT));exact rfl)|((first|apply Ev.fieldAddr|apply Ev.len|apply EqOf.eq|apply EqOf.ne|apply Ev.conv|apply Ev.buildN);exact rfl)|((first|apply Ev.shr|apply Ev.shl);(iterate 2 exact rfl);first|decide|omega));·exact rfl)|(apply yn;iterate 4 exact rfl)|((apply QL.split;iterate 3 exact rfl);all_goals(intro hc;try simp only[hcs]at hc;try(exfalso;first|contradiction|omega)))|apply QL.nil)
      all_goals (show DW _ _ _ _ _ _ _ _))
    all_goals (first | (apply DW.done_thn; (· decide +kernel)) | (apply DW.done; (· decide +kernel)))
    repeat'(first|(apply kp;iterate 2 exact rfl)|apply jJ|(apply jE;exact rfl)|(apply jp;exact rfl)|(apply jc;kernel_rfl)|((first|apply kf|apply kn|apply ke|apply kx|apply kc|apply kb);iterate 2 exact rfl)|((first|apply kz|apply ky);(·exact rfl);(·repeat(first|exact iO|exact iR rfl|apply iT));iterate 2 exact rfl)|(apply kg;iterate 2 exact rfl)|(apply kG;iterate 3 exact rfl)|(apply kB;(iterate 2 exact rfl);intro _)|(apply kA;exact rfl;intro _)|(apply Go.Hb.kK;(iterate 4 exact rfl);intro _)|(apply kU;(iterate 2 exact rfl);(·repeat(first|exact sH _ _ _|apply sT));(first|exact nfL_eq rfl|exact rfl);exact rfl)|((first|apply kh|apply kl);(iterate 2 exact rfl);(first|decide|omega);exact rfl)|(apply addX;(iterate 2 exact rfl);(iterate 2(first|omega|(dsimp only;omega)));exact rfl)|((first|(apply kR;iterate 2 exact rfl)|(apply kQ;exact rfl));all_goals(intro hc;try simp only[hcs]at hc;try(exfalso;first|contradiction|omega))))
    refine At.again (i + 1) (by omega) ?_ ⟨rfl, trivial⟩ (fun w' hw' => hw') (by omega)
    (repeat (first | exact Out.refl _ _ | exact Out.mix | (apply Out.upd; (· exact rfl)) | (apply Out.updL; (· exact rfl)) | (apply Out.mixs; (· exact rfl))))
  · repeat'(first|(apply kp;iterate 2 exact rfl)|apply jJ|(apply jE;exact rfl)|(apply jp;exact rfl)|(apply jc;kernel_rfl)|((first|apply kf|apply kn|apply ke|apply kx|apply kc|apply kb);iterate 2 exact rfl)|((first|apply kz|apply ky);(·exact rfl);(·repeat(first|exact iO|exact iR rfl|apply iT));iterate 2 exact rfl)|(apply kg;iterate 2 exact rfl)|(apply kG;iterate 3 exact rfl)|(apply kB;(iterate 2 exact rfl);intro _)|(apply kA;exact rfl;intro _)|(apply Go.Hb.kK;(iterate 4 exact rfl);intro _)|(apply kU;(iterate 2 exact rfl);(·repeat(first|exact sH _ _ _|apply sT));(first|exact nfL_eq rfl|exact rfl);exact rfl)|((first|apply kh|apply kl);(iterate 2 exact rfl);(first|decide|omega);exact rfl)|((first|(apply kR;iterate 2 exact rfl)|(apply kQ;exact rfl));all_goals(intro hc;try simp only[hcs]at hc;try(exfalso;first|contradiction|omega))))
    (apply ret1; (· exact rfl); intro w' hS)
    exact ⟨rfl, hS.toKeep⟩
end Go.Proofs.Ytkolmkdbjagfcaa

namespace Go.Proofs.Ytkolmkdbjagfcaa
open Go.Hb
attribute [local irreducible] LR CW At Ev thn blk finK noG again CallsTo DW QL dnext TW DP
set_option linter.unusedSimpArgs false
set_option linter.unusedVariables false
set_option maxRecDepth 100000

def oneC (n s : Int) (f : Bool) : Dat := ⟨2, 1, n, s, 0, ⟨1, s, 1, 0, 0, 1, 1, f, 0, 0, 0, 0, []⟩⟩
theorem q28 (n s : Int) (f : Bool) (w : World) : CallsTo Try.prog 28 [.int .i64 n, .int .i64 s, .bool f] w fun v w' => v = (oneC n s f).val none 0 ∧ Grew w w' := by
  refine go_in (n := 14) (St.refl _ NoF) Try.func28 rfl rfl ?_
  repeat'(first|(apply kp;iterate 2 exact rfl)|apply jJ|(apply jE;exact rfl)|(apply jp;exact rfl)|(apply jc;kernel_rfl)|((first|apply kf|apply kn|apply ke|apply kx|apply kc|apply kb);iterate 2 exact rfl)|((first|apply kz|apply ky);(·exact rfl);(·repeat(first|exact iO|exact iR rfl|apply iT));iterate 2 exact rfl)|(apply kg;iterate 2 exact rfl)|(apply kG;iterate 3 exact rfl)|(apply kB;(iterate 2 exact rfl);intro _)|(apply kA;exact rfl;intro _)|(apply Go.Hb.kK;(iterate 4 exact rfl);intro _)|(apply kU;(iterate 2 exact rfl);(·repeat(first|exact sH _ _ _|apply sT));(first|exact nfL_eq rfl|exact rfl);exact rfl)|((first|apply kh|apply kl);(iterate 2 exact rfl);(first|decide|omega);exact rfl)|((first|(apply kR;iterate 2 exact rfl)|(apply kQ;exact rfl));all_goals(intro hc;try simp only[hcs]at hc;try(exfalso;first|contradiction|omega))))
  (apply ret1c; (· exact rfl); (· exact inferInstance); (· exact rfl); (· (repeat (first | exact List.Mem.head _ | apply List.Mem.tail))); (· exact rfl); intro w' hS)
  exact ⟨rfl, hS.toKeep⟩
def endC : OldC := ⟨⟨2, 1, 0, 0, 14, false, 0⟩, 1, 2⟩
def nextC : Cfg := ⟨5, 1, 0, 0, 22, false, 40⟩
theorem q24 (w : World) : CallsTo Try.prog 24 [] w fun v w' => v = endC.val ∧ Grew w w' := by
  refine go_in (n := 4) (St.refl _ NoF) Try.func24 rfl rfl ?_
  repeat'(first|(apply kp;iterate 2 exact rfl)|apply jJ|(apply jE;exact rfl)|(apply jp;exact rfl)|(apply jc;kernel_rfl)|((first|apply kf|apply kn|apply ke|apply kx|apply kc|apply kb);iterate 2 exact rfl)|((first|apply kz|apply ky);(·exact rfl);(·repeat(first|exact iO|exact iR rfl|apply iT));iterate 2 exact rfl)|(apply kg;iterate 2 exact rfl)|(apply kG;iterate 3 exact rfl)|(apply kB;(iterate 2 exact rfl);intro _)|(apply kA;exact rfl;intro _)|(apply Go.Hb.kK;(iterate 4 exact rfl);intro _)|(apply kU;(iterate 2 exact rfl);(·repeat(first|exact sH _ _ _|apply sT));(first|exact nfL_eq rfl|exact rfl);exact rfl)|((first|apply kh|apply kl);(iterate 2 exact rfl);(first|decide|omega);exact rfl)|((first|(apply kR;iterate 2 exact rfl)|(apply kQ;exact rfl));all_goals(intro hc;try simp only[hcs]at hc;try(exfalso;first|contradiction|omega))))
  (apply ret1c; (· exact rfl); (· exact inferInstance); (· exact rfl); (· (repeat (first | exact List.Mem.head _ | apply List.Mem.tail))); (· exact rfl); intro w' hS)
  exact ⟨rfl, hS.toKeep⟩
theorem q25 (w : World) : CallsTo Try.prog 25 [] w fun v w' => v = nextC.val ∧ Grew w w' := by
  refine go_in (n := 3) (St.refl _ NoF) Try.func25 rfl rfl ?_
  repeat'(first|(apply kp;iterate 2 exact rfl)|apply jJ|(apply jE;exact rfl)|(apply jp;exact rfl)|(apply jc;kernel_rfl)|((first|apply kf|apply kn|apply ke|apply kx|apply kc|apply kb);iterate 2 exact rfl)|((first|apply kz|apply ky);(·exact rfl);(·repeat(first|exact iO|exact iR rfl|apply iT));iterate 2 exact rfl)|(apply kg;iterate 2 exact rfl)|(apply kG;iterate 3 exact rfl)|(apply kB;(iterate 2 exact rfl);intro _)|(apply kA;exact rfl;intro _)|(apply Go.Hb.kK;(iterate 4 exact rfl);intro _)|(apply kU;(iterate 2 exact rfl);(·repeat(first|exact sH _ _ _|apply sT));(first|exact nfL_eq rfl|exact rfl);exact rfl)|((first|apply kh|apply kl);(iterate 2 exact rfl);(first|decide|omega);exact rfl)|((first|(apply kR;iterate 2 exact rfl)|(apply kQ;exact rfl));all_goals(intro hc;try simp only[hcs]at hc;try(exfalso;first|contradiction|omega))))
  (apply ret1c; (· exact rfl); (· exact inferInstance); (· exact rfl); (· (repeat (first | exact List.Mem.head _ | apply List.Mem.tail))); (· exact rfl); intro w' hS)
  exact ⟨rfl, hS.toKeep⟩
structure Nst where
  k : Nat
  a : Option Addr
  c : Nat
set_option maxHeartbeats 2000000 in
theorem q21 (a : Option Addr) (c : Nat) (l : List EvA) (w : World) (hr : Rd w a (l.flatMap EvA.row)) (hm : l.length ≤ 100000) :
    CallsTo Try.prog 21 [.slice a l.length c] w fun v w' => ∃ a' c', v = .slice a' ((l.map EvA.e).map numE).length c' ∧ NewSl w w' (.slice a' ((l.map EvA.e).map numE).length c') 3 1 ((l.map EvA.e).map numE).length (iv ((l.map EvA.e).map numE)) := by
  refine go_in (n := 41) (St.rd1 hr) Try.func21 rfl rfl ?_
  repeat'(first|(apply kp;iterate 2 exact rfl)|apply jJ|(apply jE;exact rfl)|(apply jp;exact rfl)|(apply jc;kernel_rfl)|((first|apply kf|apply kn|apply ke|apply kx|apply kc|apply kb);iterate 2 exact rfl)|((first|apply kz|apply ky);(·exact rfl);(·repeat(first|exact iO|exact iR rfl|apply iT));iterate 2 exact rfl)|(apply kg;iterate 2 exact rfl)|(apply kG;iterate 3 exact rfl)|(apply kB;(iterate 2 exact rfl);intro _)|(apply kA;exact rfl;intro _)|(apply Go.Hb.kK;(iterate 4 exact rfl);intro _)|(apply kU;(iterate 2 exact rfl);(·repeat(first|exact sH _ _ _|apply sT));(first|exact nfL_eq rfl|exact rfl);exact rfl)|((first|apply kh|apply kl);(iterate 2 exact rfl);(first|decide|omega);exact rfl)|((first|(apply kR;iterate 2 exact rfl)|(apply kQ;exact rfl));all_goals(intro hc;try simp only[hcs]at hc;try(exfalso;first|contradiction|omega))))
  apply CW.loop [3, 4, 5, 6, 7, 8, 9, 10, 11, 12, 13, 14, 15, 16, 17, 18, 19, 20, 21, 22, 23, 24, 25, 26, 27, 28, 29, 30, 31, 32, 33, 34, 35, 36, 37, 38, 39] (fun s : Nst => s.k ≤ l.length) (fun s => [(3, .slice s.a (((l.take s.k).map EvA.e).map numE).length s.c), (4, .int .i64 (s.k : Int))])
    (fun s => St w NoF [il s.a s.c (((l.take s.k).map EvA.e).map numE), rdA a (l.flatMap EvA.row)]) (fun s => l.length - s.k)
  · intro w' hw'
    exact ⟨⟨0, none, 0⟩, by simp, ⟨rfl, rfl, trivial⟩, hw'.nilsl 3 1⟩
  rintro ⟨k, a2, c2⟩ g1 hk
  simp only at hk ⊢
  have hlen : (((l.take k).map EvA.e).map numE).length = k := by simp; omega
  by_cases hlt : k < l.length
  · obtain ⟨bg, og, rfl⟩ := hr.form (rows_ne EvA.row_len (by omega) hlt)
    have hsucc : ((l.take (k + 1)).map EvA.e).map numE = ((l.take k).map EvA.e).map numE ++ [numE l[k].e] := by
      rw [List.take_add_one, List.getElem?_eq_getElem hlt, List.map_append, List.map_append]
      rfl
    generalize ((l.take k).map EvA.e).map numE = L at hlen hsucc ⊢
    have hone : numE l[k].e = if l[k].kind = 2 then l[k].x.d.seq else if l[k].cfg.trans then 0 else -1 := rfl
    by_cases hk2 : l[k].kind = 2
    · have hv : numE l[k].e = l[k].x.d.seq := by rw [hone, if_pos hk2]
      repeat'(first|(apply Go.Hb.kK;(iterate 4 exact rfl);intro bs)|(apply kp;iterate 2 exact rfl)|apply jJ|(apply jE;exact rfl)|(apply jp;exact rfl)|(apply jc;kernel_rfl)|((first|apply kf|apply kn|apply ke|apply kx|apply kc|apply kb);iterate 2 exact rfl)|((first|apply kz|apply ky);(·exact rfl);(·repeat(first|exact iO|exact iR rfl|apply iT));iterate 2 exact rfl)|(apply kg;iterate 2 exact rfl)|(apply kG;iterate 3 exact rfl)|(apply kB;(iterate 2 exact rfl);intro _)|(apply kA;exact rfl;intro _)|(apply Go.Hb.kK;(iterate 4 exact rfl);intro _)|(apply kU;(iterate 2 exact rfl);(·repeat(first|exact sH _ _ _|apply sT));(first|exact nfL_eq rfl|exact rfl);exact rfl)|((first|apply kh|apply kl);(iterate 2 exact rfl);(first|decide|omega);exact rfl)|(apply idxX;(iterate 2 exact rfl);(iterate 2(first|omega|(dsimp only;omega)));exact rfl)|(apply LR.ev; (· first | (apply Ev.load (v := .int .i64 l[k].kind); (· exact rfl); (· exact fun w' hw' => row_cell EvA.row_len (hw'.rd_of (by (repeat (first | exact mH _ _ | apply mT)))) hlt 0 rfl (by omega))) | (apply Ev.load (v := .int .i64 l[k].x.d.seq); (· exact rfl); (· exact fun w' hw' => row_cell EvA.row_len (hw'.rd_of (by (repeat (first | exact mH _ _ | apply mT)))) hlt 10 rfl (by omega))) | (apply Ev.load (v := .bool l[k].cfg.trans); (· exact rfl); (· exact fun w' hw' => row_cell EvA.row_len (hw'.rd_of (by (repeat (first | exact mH _ _ | apply mT)))) hlt 6 rfl (by omega)))); (· exact rfl))|(apply addX;(iterate 2 exact rfl);(iterate 2(first|omega|(dsimp only;omega)));exact rfl)|(apply LR.append (xs := iv L) (news := [Value.int .i64 (l[k].x.d.seq)]) (m := 1); (· exact rfl); (· exact rfl); (· intro a' c'; (repeat (first | exact sH _ _ _ | apply sT))); (· exact fun w' hw' => hw'.rd_of_blk (mH _ _)); (· exact fun hx => by cases hx); (· exact rfl); (· exact rfl); (· omega); (· unfold maxLen; omega); (· exact rfl); (intro a3 c3))|((first|(apply kR;iterate 2 exact rfl)|(apply kQ;exact rfl));all_goals(intro hc;try simp only[hcs]at hc;try(exfalso;first|contradiction|omega))))
      rw [hv] at hsucc
      refine At.again (⟨k + 1, a3, c3⟩ : Nst) (by simp only; omega) ?_ ⟨?_, rfl, trivial⟩ ?_ (by simp only; omega)
      · (repeat (first | exact Out.refl _ _ | exact Out.mix | (apply Out.upd; (· exact rfl)) | (apply Out.updL; (· exact rfl)) | (apply Out.mixs; (· exact rfl))))
      · simp only
        rw [hsucc]
        simp only [List.length_append, List.length_cons, List.length_nil]
        rfl
      · intro w' hw'
        simp only
        rw [hsucc]
        have e : il a3 c3 (L ++ [l[k].x.d.seq]) = osl (.slice a3 (L.length + 1) c3) 3 1 (L.length + 1) (iv L ++ [Value.int .i64 (l[k].x.d.seq)]) := by simp [il, iv]
        rw [e]
        exact hw'.sub (by (repeat (first | exact List.Sublist.refl _ | apply List.Sublist.cons_cons | apply List.Sublist.cons)))
    · repeat'(first|(apply Go.Hb.kK;(iterate 4 exact rfl);intro bs)|(apply kp;iterate 2 exact rfl)|apply jJ|(apply jE;exact rfl)|(apply jp;exact rfl)|(apply jc;kernel_rfl)|((first|apply kf|apply kn|apply ke|apply kx|apply kc|apply kb);iterate 2 exact rfl)|((first|apply kz|apply ky);(·exact rfl);(·repeat(first|exact iO|exact iR rfl|apply iT));iterate 2 exact rfl)|(apply kg;iterate 2 exact rfl)|(apply kG;iterate 3 exact rfl)|(apply kB;(iterate 2 exact rfl);intro _)|(apply kA;exact rfl;intro _)|(apply Go.Hb.kK;(iterate 4 exact rfl);intro _)|(apply kU;(iterate 2 exact rfl);(·repeat(first|exact sH _ _ _|apply sT));(first|exact nfL_eq rfl|exact rfl);exact rfl)|((first|apply kh|apply kl);(iterate 2 exact rfl);(first|decide|omega);exact rfl)|(apply idxX;(iterate 2 exact rfl);(iterate 2(first|omega|(dsimp only;omega)));exact rfl)|(apply LR.ev; (· first | (apply Ev.load (v := .int .i64 l[k].kind); (· exact rfl); (· exact fun w' hw' => row_cell EvA.row_len (hw'.rd_of (by (repeat (first | exact mH _ _ | apply mT)))) hlt 0 rfl (by omega))) | (apply Ev.load (v := .int .i64 l[k].x.d.seq); (· exact rfl); (· exact fun w' hw' => row_cell EvA.row_len (hw'.rd_of (by (repeat (first | exact mH _ _ | apply mT)))) hlt 10 rfl (by omega))) | (apply Ev.load (v := .bool l[k].cfg.trans); (· exact rfl); (· exact fun w' hw' => row_cell EvA.row_len (hw'.rd_of (by (repeat (first | exact mH _ _ | apply mT)))) hlt 6 rfl (by omega)))); (· exact rfl))|(apply addX;(iterate 2 exact rfl);(iterate 2(first|omega|(dsimp only;omega)));exact rfl)|(apply LR.append (xs := iv L) (news := [Value.int .i64 (0)]) (m := 1); (· exact rfl); (· exact rfl); (· intro a' c'; (repeat (first | exact sH _ _ _ | apply sT))); (· exact fun w' hw' => hw'.rd_of_blk (mH _ _)); (· exact fun hx => by cases hx); (· exact rfl); (· exact rfl); (· omega); (· unfold maxLen; omega); (· exact rfl); (intro a3 c3))|(apply LR.append (xs := iv L) (news := [Value.int .i64 (-1)]) (m := 1); (· exact rfl); (· exact rfl); (· intro a' c'; (repeat (first | exact sH _ _ _ | apply sT))); (· exact fun w' hw' => hw'.rd_of_blk (mH _ _)); (· exact fun hx => by cases hx); (· exact rfl); (· exact rfl); (· omega); (· unfold maxLen; omega); (· exact rfl); (intro a3 c3))|((first|(apply kR;iterate 2 exact rfl)|(apply kQ;exact rfl));all_goals(intro hc;try simp only[hcs]at hc;try(exfalso;first|contradiction|omega))))
      · have hv : numE l[k].e = 0 := by rw [hone, if_neg hk2, show l[k].cfg.trans = true by assumption]; rfl
        rw [hv] at hsucc
        refine At.again (⟨k + 1, a3, c3⟩ : Nst) (by simp only; omega) ?_ ⟨?_, rfl, trivial⟩ ?_ (by simp only; omega)
        · (repeat (first | exact Out.refl _ _ | exact Out.mix | (apply Out.upd; (· exact rfl)) | (apply Out.updL; (· exact rfl)) | (apply Out.mixs; (· exact rfl))))
        · simp only
          rw [hsucc]
          simp only [List.length_append, List.length_cons, List.length_nil]
          rfl
        · intro w' hw'
          simp only
          rw [hsucc]
          have e : il a3 c3 (L ++ [0]) = osl (.slice a3 (L.length + 1) c3) 3 1 (L.length + 1) (iv L ++ [Value.int .i64 (0)]) := by simp [il, iv]
          rw [e]
          exact hw'.sub (by (repeat (first | exact List.Sublist.refl _ | apply List.Sublist.cons_cons | apply List.Sublist.cons)))
      · have hv : numE l[k].e = -1 := by rw [hone, if_neg hk2, show l[k].cfg.trans = false by assumption]; rfl
        rw [hv] at hsucc
        refine At.again (⟨k + 1, a3, c3⟩ : Nst) (by simp only; omega) ?_ ⟨?_, rfl, trivial⟩ ?_ (by simp only; omega)
        · (repeat (first | exact Out.refl _ _ | exact Out.mix | (apply Out.upd; (· exact rfl)) | (apply Out.updL; (· exact rfl)) | (apply Out.mixs; (· exact rfl))))
        · simp only
          rw [hsucc]
          simp only [List.length_append, List.length_cons, List.length_nil]
          rfl
        · intro w' hw'
          simp only
          rw [hsucc]
          have e : il a3 c3 (L ++ [-1]) = osl (.slice a3 (L.length + 1) c3) 3 1 (L.length + 1) (iv L ++ [Value.int .i64 (-1)]) := by simp [il, iv]
          rw [e]
          exact hw'.sub (by (repeat (first | exact List.Sublist.refl _ | apply List.Sublist.cons_cons | apply List.Sublist.cons)))
  · have hke : k = l.length := by omega
    subst hke
    rw [List.take_length] at hlen ⊢
    repeat'(first|(apply kp;iterate 2 exact rfl)|apply jJ|(apply jE;exact rfl)|(apply jp;exact rfl)|(apply jc;kernel_rfl)|((first|apply kf|apply kn|apply ke|apply kx|apply kc|apply kb);iterate 2 exact rfl)|((first|apply kz|apply ky);(·exact rfl);(·repeat(first|exact iO|exact iR rfl|apply iT));iterate 2 exact rfl)|(apply kg;iterate 2 exact rfl)|(apply kG;iterate 3 exact rfl)|(apply kB;(iterate 2 exact rfl);intro _)|(apply kA;exact rfl;intro _)|(apply Go.Hb.kK;(iterate 4 exact rfl);intro _)|(apply kU;(iterate 2 exact rfl);(·repeat(first|exact sH _ _ _|apply sT));(first|exact nfL_eq rfl|exact rfl);exact rfl)|((first|apply kh|apply kl);(iterate 2 exact rfl);(first|decide|omega);exact rfl)|((first|(apply kR;iterate 2 exact rfl)|(apply kQ;exact rfl));all_goals(intro hc;try simp only[hcs]at hc;try(exfalso;first|contradiction|omega))))
    (apply ret1; (· exact rfl); intro w' hS)
    exact ⟨a2, c2, rfl, hS.toNew (by (repeat (first | exact mH _ _ | apply mT)))⟩
end Go.Proofs.Ytkolmkdbjagfcaa

namespace Go.Proofs.Ytkolmkdbjagfcaa
open Go.Hb
attribute [local irreducible] LR CW At Ev thn blk finK noG again CallsTo DW QL dnext TW DP
set_option linter.unusedSimpArgs false
set_option linter.unusedVariables false
set_option maxRecDepth 100000

def usL : List Dat := [oneC 1 1 false, oneC 2 2 true, oneC 3 3 false, oneC 4 1 true, oneC 6 1 false, oneC 7 3 false]
def usA : List DaA := usL.map fun d => ⟨d, none, 0⟩
theorem us_fold : usL.foldl wpD [] = usL := by rfl
structure Wst where
  i : Nat
  es : List DaA
  ar : Int
  hi : Int
set_option maxHeartbeats 2000000 in
theorem q26 (w : World) : CallsTo Try.prog 26 [] w fun v w' => ∃ bw bm es ar hi, v = .pointer (some ⟨bw, 0, none⟩) ∧ dats es = usL ∧ New1 (wO bw bm es ar hi) w w' := by
  refine go_in (n := 25) (St.refl _ NoF) Try.func26 rfl rfl ?_
  repeat'(first|(apply Go.Hb.kK;(iterate 4 exact rfl);intro bs)|(apply kp;iterate 2 exact rfl)|apply jJ|(apply jE;exact rfl)|(apply jp;exact rfl)|(apply jc;kernel_rfl)|((first|apply kf|apply kn|apply ke|apply kx|apply kc|apply kb);iterate 2 exact rfl)|((first|apply kz|apply ky);(·exact rfl);(·repeat(first|exact iO|exact iR rfl|apply iT));iterate 2 exact rfl)|(apply kg;iterate 2 exact rfl)|(apply kG;iterate 3 exact rfl)|(apply kB;(iterate 2 exact rfl);intro _)|(apply kA;exact rfl;intro _)|(apply Go.Hb.kK;(iterate 4 exact rfl);intro _)|(apply kU;(iterate 2 exact rfl);(·repeat(first|exact sH _ _ _|apply sT));(first|exact nfL_eq rfl|exact rfl);exact rfl)|((first|apply kh|apply kl);(iterate 2 exact rfl);(first|decide|omega);exact rfl)|(apply kq; (· exact rfl); (· intro w1 h1; exact CallsTo.q (q28 _ _ _ w1) h1))|(apply LR.call; (· exact rfl); (intro w1 h1; refine (t24 w1).mono ?_; rintro v w2 ⟨bw, bm, rfl, hn⟩; refine LR.back (h1.got hn (wO_dep _ _ _ _ _)) ?_; clear hn h1))|((first|(apply kR;iterate 2 exact rfl)|(apply kQ;exact rfl));all_goals(intro hc;try simp only[hcs]at hc;try(exfalso;first|contradiction|omega))))
  apply CW.loop [3, 12, 13, 14, 15, 16, 17, 18, 19, 20, 21, 22, 23] (fun s : Wst => s.i ≤ 6 ∧ WOk (dats s.es) ∧ IsAru (dats s.es) s.ar ∧ (usL.drop s.i).foldl wpD (dats s.es) = usL) (fun s => [(3, .int .i64 (s.i : Int))])
    (fun s => St w NoF [.own bs (.cells (usA.flatMap DaA.row).toArray 44 (0, 0)), wO bw bm s.es s.ar s.hi]) (fun s => 6 - s.i)
  · intro w' hw'
    exact ⟨⟨0, [], 0, 0⟩, ⟨by simp, WOk.nil, IsAru.nil, us_fold⟩, ⟨rfl, trivial⟩, hw'⟩
  rintro ⟨i, es, ar, hi⟩ g1 ⟨hi6, hok, har, hf⟩
  simp only at hi6 hok har hf ⊢
  by_cases hlt : i < 6
  · have hu : i < usA.length := hlt
    have hl : i < usL.length := hlt
    have hx : usA[i] = ⟨usL[i], none, 0⟩ := List.getElem_map (fun d => (⟨d, none, 0⟩ : DaA))
    have hd : usA[i].d = usL[i] := congrArg DaA.d hx
    have ha : usA[i].a = none := congrArg DaA.a hx
    have hc0 : usA[i].c = 0 := congrArg DaA.c hx
    have hbo : usA[i].d.msg.body = [] := by
      have hh : usL.all (fun d => d.msg.body.isEmpty) = true := by decide
      rw [hd]
      simpa using List.all_eq_true.1 hh _ (List.getElem_mem hl)
    have hbl : usA[i].d.msg.body.length ≤ 140737488351232 := by rw [hbo]; exact Nat.zero_le _
    rw [List.drop_eq_getElem_cons hl, List.foldl_cons, ← hd] at hf
    repeat'(first|(apply kp;iterate 2 exact rfl)|apply jJ|(apply jE;exact rfl)|(apply jp;exact rfl)|(apply jc;kernel_rfl)|((first|apply kf|apply kn|apply ke|apply kx|apply kc|apply kb);iterate 2 exact rfl)|((first|apply kz|apply ky);(·exact rfl);(·repeat(first|exact iO|exact iR rfl|apply iT));iterate 2 exact rfl)|(apply kg;iterate 2 exact rfl)|(apply kG;iterate 3 exact rfl)|(apply kB;(iterate 2 exact rfl);intro _)|(apply kA;exact rfl;intro _)|(apply Go.Hb.kK;(iterate 4 exact rfl);intro _)|(apply kU;(iterate 2 exact rfl);(·repeat(first|exact sH _ _ _|apply sT));(first|exact nfL_eq rfl|exact rfl);exact rfl)|((first|apply kh|apply kl);(iterate 2 exact rfl);(first|decide|omega);exact rfl)|(apply idxX;(iterate 2 exact rfl);(iterate 2(first|omega|(dsimp only;omega)));exact rfl)|(apply LR.ev; (· apply Ev.load_agg_at (cs := usA[i].row); (· exact rfl); (· exact rfl); (· intro w' hw'; exact rd_row DaA.row_len (hw'.rd_of_blk (by (repeat (first | exact mH _ _ | apply mT)))) hu (by omega))); (· exact rfl))|(apply addX;(iterate 2 exact rfl);(iterate 2(first|omega|(dsimp only;omega)));exact rfl)|(apply LR.call; (· exact rfl); (intro w1 h1; refine (t29 bw bm es ar hi usA[i].d usA[i].a usA[i].c w1 (h1.holds _ (by (repeat (first | exact mH _ _ | apply mT)))) hok har (by rw [hbo]; exact Rd.nil _ _) (fun _ => hc0) (fun k hk => by rw [ha] at hk; obtain ⟨_, _, e, _⟩ := hk; cases e) hbl).mono ?_; rintro v w2 ⟨es', ar', rfl, he, haru, hst⟩; apply LR.back; (· exact St.did h1 (by (repeat (first | exact sH _ _ _ | apply sT))) rfl hst (wO_dep _ _ _ _ _)); clear hst h1))|((first|(apply kR;iterate 2 exact rfl)|(apply kQ;exact rfl));all_goals(intro hc;try simp only[hcs]at hc;try(exfalso;first|contradiction|omega))))
    refine At.again (⟨i + 1, es', ar', wpH (dats es) hi usA[i].d⟩ : Wst) ⟨by simp only; omega, by simp only; rw [he]; exact wpD_ok hok hbl, by simp only; rw [he]; exact haru, by simp only; rw [he]; exact hf⟩ ?_ ⟨rfl, trivial⟩ (fun w' hw' => hw') (by simp only; omega)
    (repeat (first | exact Out.refl _ _ | exact Out.mix | (apply Out.upd; (· exact rfl)) | (apply Out.updL; (· exact rfl)) | (apply Out.mixs; (· exact rfl))))
  · have hie : i = 6 := by omega
    subst hie
    repeat'(first|(apply kp;iterate 2 exact rfl)|apply jJ|(apply jE;exact rfl)|(apply jp;exact rfl)|(apply jc;kernel_rfl)|((first|apply kf|apply kn|apply ke|apply kx|apply kc|apply kb);iterate 2 exact rfl)|((first|apply kz|apply ky);(·exact rfl);(·repeat(first|exact iO|exact iR rfl|apply iT));iterate 2 exact rfl)|(apply kg;iterate 2 exact rfl)|(apply kG;iterate 3 exact rfl)|(apply kB;(iterate 2 exact rfl);intro _)|(apply kA;exact rfl;intro _)|(apply Go.Hb.kK;(iterate 4 exact rfl);intro _)|(apply kU;(iterate 2 exact rfl);(·repeat(first|exact sH _ _ _|apply sT));(first|exact nfL_eq rfl|exact rfl);exact rfl)|((first|apply kh|apply kl);(iterate 2 exact rfl);(first|decide|omega);exact rfl)|((first|(apply kR;iterate 2 exact rfl)|(apply kQ;exact rfl));all_goals(intro hc;try simp only[hcs]at hc;try(exfalso;first|contradiction|omega))))
    (apply ret1; (· exact rfl); intro w' hS)
    exact ⟨bw, bm, es, ar, hi, rfl, hf, St.new1 (R := [.own bs (.cells (usA.flatMap DaA.row).toArray 44 (0, 0))]) (front hS 1 rfl rfl) rfl⟩
end Go.Proofs.Ytkolmkdbjagfcaa

namespace Go.Proofs.Ytkolmkdbjagfcaa
open Go.Hb
attribute [local irreducible] LR CW At Ev thn blk finK noG again CallsTo DW QL dnext TW DP
set_option linter.unusedSimpArgs false
set_option linter.unusedVariables false
set_option maxRecDepth 100000

theorem plainT_snoc (L : List Int) (x : Int) : plainT (L ++ [x]) = plainT L ++ if 0 < x then [x] else [] := by
  unfold plainT
  rw [List.filter_append]
  congr 1
  by_cases h : 0 < x <;> simp [h]
theorem plainT_len (L : List Int) : (plainT L).length ≤ L.length := List.length_filter_le _ _
set_option maxHeartbeats 2000000 in
theorem q36 (a : Option Addr) (c : Nat) (l : List Int) (w : World) (hr : Rd w a (iv l)) (hm : l.length ≤ 100000) :
    CallsTo Try.prog 36 [.slice a l.length c] w fun v w' => ∃ a' c', v = .slice a' (plainT l).length c' ∧ NewSl w w' (.slice a' (plainT l).length c') 3 1 (plainT l).length (iv (plainT l)) := by
  refine go_in (n := 24) (St.rd1 hr) Try.func36 rfl rfl ?_
  repeat'(first|(apply kp;iterate 2 exact rfl)|apply jJ|(apply jE;exact rfl)|(apply jp;exact rfl)|(apply jc;kernel_rfl)|((first|apply kf|apply kn|apply ke|apply kx|apply kc|apply kb);iterate 2 exact rfl)|((first|apply kz|apply ky);(·exact rfl);(·repeat(first|exact iO|exact iR rfl|apply iT));iterate 2 exact rfl)|(apply kg;iterate 2 exact rfl)|(apply kG;iterate 3 exact rfl)|(apply kB;(iterate 2 exact rfl);intro _)|(apply kA;exact rfl;intro _)|(apply Go.Hb.kK;(iterate 4 exact rfl);intro _)|(apply kU;(iterate 2 exact rfl);(·repeat(first|exact sH _ _ _|apply sT));(first|exact nfL_eq rfl|exact rfl);exact rfl)|((first|apply kh|apply kl);(iterate 2 exact rfl);(first|decide|omega);exact rfl)|((first|(apply kR;iterate 2 exact rfl)|(apply kQ;exact rfl));all_goals(intro hc;try simp only[hcs]at hc;try(exfalso;first|contradiction|omega))))
  apply CW.loop [3, 4, 5, 6, 7, 8, 9, 10, 11, 12, 13, 14, 15, 16, 17, 18, 19, 20, 21, 22] (fun s : Nst => s.k ≤ l.length) (fun s => [(3, .slice s.a (plainT (l.take s.k)).length s.c), (4, .int .i64 (s.k : Int))])
    (fun s => St w NoF [il s.a s.c (plainT (l.take s.k)), rdA a (iv l)]) (fun s => l.length - s.k)
  · intro w' hw'
    exact ⟨⟨0, none, 0⟩, by simp, ⟨rfl, rfl, trivial⟩, hw'.nilsl 3 1⟩
  rintro ⟨k, a2, c2⟩ g1 hk
  simp only at hk ⊢
  have hlen := plainT_len (l.take k)
  rw [List.length_take] at hlen
  by_cases hlt : k < l.length
  · obtain ⟨bg, og, rfl⟩ := hr.form (fun e => by have h2 := congrArg List.length e; simp only [iv_length, List.length_nil] at h2; omega)
    have hsucc := plainT_snoc (l.take k) l[k]
    rw [← take_snocI hlt] at hsucc
    generalize plainT (l.take k) = L at hlen hsucc ⊢
    repeat'(first|(apply Go.Hb.kK;(iterate 4 exact rfl);intro bs)|(apply kp;iterate 2 exact rfl)|apply jJ|(apply jE;exact rfl)|(apply jp;exact rfl)|(apply jc;kernel_rfl)|((first|apply kf|apply kn|apply ke|apply kx|apply kc|apply kb);iterate 2 exact rfl)|((first|apply kz|apply ky);(·exact rfl);(·repeat(first|exact iO|exact iR rfl|apply iT));iterate 2 exact rfl)|(apply kg;iterate 2 exact rfl)|(apply kG;iterate 3 exact rfl)|(apply kB;(iterate 2 exact rfl);intro _)|(apply kA;exact rfl;intro _)|(apply Go.Hb.kK;(iterate 4 exact rfl);intro _)|(apply kU;(iterate 2 exact rfl);(·repeat(first|exact sH _ _ _|apply sT));(first|exact nfL_eq rfl|exact rfl);exact rfl)|((first|apply kh|apply kl);(iterate 2 exact rfl);(first|decide|omega);exact rfl)|(apply idxX;(iterate 2 exact rfl);(iterate 2(first|omega|(dsimp only;omega)));exact rfl)|(apply LR.ev; (· apply Ev.load_rd; (· exact rfl); (· repeat (first | exact mH _ _ | apply mT)); (· exact iv_at (i := k) (by simp) hlt)); (· exact rfl))|(apply addX;(iterate 2 exact rfl);(iterate 2(first|omega|(dsimp only;omega)));exact rfl)|(apply LR.append (xs := iv L) (news := [Value.int .i64 l[k]]) (m := 1); (· exact rfl); (· exact rfl); (· intro a' c'; (repeat (first | exact sH _ _ _ | apply sT))); (· exact fun w' hw' => hw'.rd_of_blk (mH _ _)); (· exact fun hx => by cases hx); (· exact rfl); (· exact rfl); (· omega); (· unfold maxLen; omega); (· exact rfl); (intro a3 c3))|((first|(apply kR;iterate 2 exact rfl)|(apply kQ;exact rfl));all_goals(intro hc;try simp only[hcs]at hc;try(exfalso;first|contradiction|omega))))
    · rw [if_pos (by assumption)] at hsucc
      refine At.again (⟨k + 1, a3, c3⟩ : Nst) (by simp only; omega) ?_ ⟨?_, rfl, trivial⟩ ?_ (by simp only; omega)
      · (repeat (first | exact Out.refl _ _ | exact Out.mix | (apply Out.upd; (· exact rfl)) | (apply Out.updL; (· exact rfl)) | (apply Out.mixs; (· exact rfl))))
      · simp only
        rw [hsucc]
        simp only [List.length_append, List.length_cons, List.length_nil]
        rfl
      · intro w' hw'
        simp only
        rw [hsucc]
        have e : il a3 c3 (L ++ [l[k]]) = osl (.slice a3 (L.length + 1) c3) 3 1 (L.length + 1) (iv L ++ [Value.int .i64 l[k]]) := by simp [il, iv]
        rw [e]
        exact hw'.sub (by (repeat (first | exact List.Sublist.refl _ | apply List.Sublist.cons_cons | apply List.Sublist.cons)))
    · rw [if_neg (by omega), List.append_nil] at hsucc
      refine At.again (⟨k + 1, a2, c2⟩ : Nst) (by simp only; omega) ?_ ⟨?_, rfl, trivial⟩ ?_ (by simp only; omega)
      · (repeat (first | exact Out.refl _ _ | exact Out.mix | (apply Out.upd; (· exact rfl)) | (apply Out.updL; (· exact rfl)) | (apply Out.mixs; (· exact rfl))))
      · simp only
        rw [hsucc]
        rfl
      · intro w' hw'
        simp only
        rw [hsucc]
        exact hw'.sub (by (repeat (first | exact List.Sublist.refl _ | apply List.Sublist.cons_cons | apply List.Sublist.cons)))
  · have hke : k = l.length := by omega
    subst hke
    rw [List.take_length]
    repeat'(first|(apply kp;iterate 2 exact rfl)|apply jJ|(apply jE;exact rfl)|(apply jp;exact rfl)|(apply jc;kernel_rfl)|((first|apply kf|apply kn|apply ke|apply kx|apply kc|apply kb);iterate 2 exact rfl)|((first|apply kz|apply ky);(·exact rfl);(·repeat(first|exact iO|exact iR rfl|apply iT));iterate 2 exact rfl)|(apply kg;iterate 2 exact rfl)|(apply kG;iterate 3 exact rfl)|(apply kB;(iterate 2 exact rfl);intro _)|(apply kA;exact rfl;intro _)|(apply Go.Hb.kK;(iterate 4 exact rfl);intro _)|(apply kU;(iterate 2 exact rfl);(·repeat(first|exact sH _ _ _|apply sT));(first|exact nfL_eq rfl|exact rfl);exact rfl)|((first|apply kh|apply kl);(iterate 2 exact rfl);(first|decide|omega);exact rfl)|((first|(apply kR;iterate 2 exact rfl)|(apply kQ;exact rfl));all_goals(intro hc;try simp only[hcs]at hc;try(exfalso;first|contradiction|omega))))
    (apply ret1; (· exact rfl); intro w' hS)
    exact ⟨a2, c2, rfl, hS.toNew (by (repeat (first | exact mH _ _ | apply mT)))⟩
def kinC (k : Int) : Int := if andI .i64 k 30 = 0 then 2 else andI .i64 k 30
theorem q20 (a : Option Addr) (n c : Nat) (k : Int) (w : World) : CallsTo Try.prog 20 [.agg [.slice a n c, .int .i64 k].toArray] w fun v w' => v = .int .i64 (kinC k) ∧ Grew w w' := by
  refine go_in (n := 10) (St.refl _ NoF) Try.func20 rfl rfl ?_
  repeat'(first|(apply kp;iterate 2 exact rfl)|apply jJ|(apply jE;exact rfl)|(apply jp;exact rfl)|(apply jc;kernel_rfl)|((first|apply kf|apply kn|apply ke|apply kx|apply kc|apply kb);iterate 2 exact rfl)|((first|apply kz|apply ky);(·exact rfl);(·repeat(first|exact iO|exact iR rfl|apply iT));iterate 2 exact rfl)|(apply kg;iterate 2 exact rfl)|(apply kG;iterate 3 exact rfl)|(apply kB;(iterate 2 exact rfl);intro _)|(apply kA;exact rfl;intro _)|(apply Go.Hb.kK;(iterate 4 exact rfl);intro _)|(apply kU;(iterate 2 exact rfl);(·repeat(first|exact sH _ _ _|apply sT));(first|exact nfL_eq rfl|exact rfl);exact rfl)|((first|apply kh|apply kl);(iterate 2 exact rfl);(first|decide|omega);exact rfl)|((first|(apply kR;iterate 2 exact rfl)|(apply kQ;exact rfl));all_goals(intro hc;try simp only[hcs]at hc;try(exfalso;first|contradiction|omega))))
  all_goals (
    (apply ret1; (· exact rfl); intro w' hS)
    refine ⟨congrArg (Value.int .i64) ?_, hS.toKeep⟩
    unfold kinC
    first
      | (rw [if_pos (by assumption)])
      | (rw [if_neg (by assumption)]))
theorem q71 (w : World) : CallsTo Try.prog 71 [] w fun v w' => ∃ b, v = .pointer (some ⟨b, 0, none⟩) ∧ New1 (.own b (.cells [.bool true, .int .i64 0].toArray 177 (0, 0))) w w' := by
  refine go_in (n := 3) (St.refl _ NoF) Try.func71 rfl rfl ?_
  repeat'(first|(apply kB;(iterate 2 exact rfl);intro b)|(apply kp;iterate 2 exact rfl)|apply jJ|(apply jE;exact rfl)|(apply jp;exact rfl)|(apply jc;kernel_rfl)|((first|apply kf|apply kn|apply ke|apply kx|apply kc|apply kb);iterate 2 exact rfl)|((first|apply kz|apply ky);(·exact rfl);(·repeat(first|exact iO|exact iR rfl|apply iT));iterate 2 exact rfl)|(apply kg;iterate 2 exact rfl)|(apply kG;iterate 3 exact rfl)|(apply kB;(iterate 2 exact rfl);intro _)|(apply kA;exact rfl;intro _)|(apply Go.Hb.kK;(iterate 4 exact rfl);intro _)|(apply kU;(iterate 2 exact rfl);(·repeat(first|exact sH _ _ _|apply sT));(first|exact nfL_eq rfl|exact rfl);exact rfl)|((first|apply kh|apply kl);(iterate 2 exact rfl);(first|decide|omega);exact rfl)|((first|(apply kR;iterate 2 exact rfl)|(apply kQ;exact rfl));all_goals(intro hc;try simp only[hcs]at hc;try(exfalso;first|contradiction|omega))))
  (apply ret1; (· exact rfl); intro w' hS)
  exact ⟨b, rfl, St.new1 hS rfl⟩
theorem q73 (b : Nat) (n : Int) (w : World) (h : w.heap[b]? = some (.cells [.bool true, .int .i64 n].toArray 177 (0, 0))) : CallsTo Try.prog 73 [.pointer (some ⟨b, 0, none⟩)] w fun v w' => v = .int .i64 n ∧ Grew w w' := by
  have hb : b < w.heap.size := (Array.getElem?_eq_some_iff.1 h).1
  have hcell : ∀ w', St w NoF [] w' → w'.cell? ⟨b, 1, none⟩ = some (.int .i64 n) := fun w' hw' => by
    rw [cell_own (show w'.heap[b]? = some (.cells [.bool true, .int .i64 n].toArray 177 (0, 0)) by rw [hw'.keep b hb (fun h => h)]; exact h)]
    rfl
  refine go_in (n := 9) (St.refl _ NoF) Try.func73 rfl rfl ?_
  repeat'(first|(apply kp;iterate 2 exact rfl)|apply jJ|(apply jE;exact rfl)|(apply jp;exact rfl)|(apply jc;kernel_rfl)|((first|apply kf|apply kn|apply ke|apply kx|apply kc|apply kb);iterate 2 exact rfl)|((first|apply kz|apply ky);(·exact rfl);(·repeat(first|exact iO|exact iR rfl|apply iT));iterate 2 exact rfl)|(apply kg;iterate 2 exact rfl)|(apply kG;iterate 3 exact rfl)|(apply kB;(iterate 2 exact rfl);intro _)|(apply kA;exact rfl;intro _)|(apply Go.Hb.kK;(iterate 4 exact rfl);intro _)|(apply kU;(iterate 2 exact rfl);(·repeat(first|exact sH _ _ _|apply sT));(first|exact nfL_eq rfl|exact rfl);exact rfl)|((first|apply kh|apply kl);(iterate 2 exact rfl);(first|decide|omega);exact rfl)|(apply LR.ev; (· apply Ev.load; (· exact rfl); (· exact hcell)); (· exact rfl))|((first|(apply kR;iterate 2 exact rfl)|(apply kQ;exact rfl));all_goals(intro hc;try simp only[hcs]at hc;try(exfalso;first|contradiction|omega))))
  (apply ret1; (· exact rfl); intro w' hS)
  exact ⟨rfl, hS.toKeep⟩
end Go.Proofs.Ytkolmkdbjagfcaa
