/-
  Lists of rows of cells; what was there at the start. Conditions: none; nothing here speaks of one program.
-/
import Derived.Test.YtomlgnncncjmaaaHb13
namespace Go.Hb
section
variable {α : Type} {f : α → List Value} {n : Nat}
theorem rows_get (hf : ∀ x, (f x).length = n) : ∀ (l : List α) (i j : Nat) (v : Value) (h : i < l.length), (f l[i])[j]? = some v → (l.flatMap f)[i * n + j]? = some v
  | x :: r, 0, j, v, h, hj => by
    have hlt : j < (f x).length := (List.getElem?_eq_some_iff.1 hj).1
    rw [List.flatMap_cons, Nat.zero_mul, Nat.zero_add, List.getElem?_append_left hlt]
    exact hj
  | x :: r, i + 1, j, v, h, hj => by
    have ih := rows_get hf r i j v (by simpa using h) hj
    rw [List.flatMap_cons, List.getElem?_append_right (by rw [hf]; rw [Nat.add_mul]; omega), hf, show (i + 1) * n + j - n = i * n + j by rw [Nat.add_mul]; omega]
    exact ih
theorem rows_len (hf : ∀ x, (f x).length = n) : ∀ (l : List α), (l.flatMap f).length = l.length * n
  | [] => by simp
  | x :: r => by rw [List.flatMap_cons, List.length_append, hf, rows_len hf r, List.length_cons, Nat.add_mul]; omega
theorem rd_row (hf : ∀ x, (f x).length = n) {w : World} {b o : Nat} {l : List α} (h : Rd w (some ⟨b, o, none⟩) (l.flatMap f)) {i q : Nat} (hi : i < l.length) (hq : q = i * n) : ∀ j v, (f l[i])[j]? = some v → w.cell? ((⟨b, o + q, none⟩ : Addr).add j) = some v := by
  intro j v hj
  subst hq
  rw [addr_add, Nat.add_assoc]
  exact h.cell (rows_get hf l i j v hi hj)
theorem row_cell (hf : ∀ x, (f x).length = n) {w : World} {b o q i : Nat} {l : List α} {v : Value} (h : Rd w (some ⟨b, o, none⟩) (l.flatMap f)) (hi : i < l.length) (j : Nat) (hj : (f l[i])[j]? = some v) (hq : q = o + i * n + j) : w.cell? ⟨b, q, none⟩ = some v := by
  subst hq
  rw [Nat.add_assoc]
  exact h.cell (rows_get hf l i j v hi hj)
theorem rows_ne (hf : ∀ x, (f x).length = n) (hn : 0 < n) {l : List α} {i : Nat} (h : i < l.length) : l.flatMap f ≠ [] := fun e => by
  have := rows_len hf l
  rw [e] at this
  have h2 : 1 * n ≤ l.length * n := Nat.mul_le_mul_right _ (by omega)
  simp only [List.length_nil] at this
  omega
theorem rows_of {R : α → Prop} : ∀ (css : List (List Value)), (∀ c ∈ css, ∃ x, c = f x ∧ R x) → ∃ l : List α, css.flatten = l.flatMap f ∧ l.length = css.length ∧ ∀ x ∈ l, R x
  | [], _ => ⟨[], rfl, rfl, fun p hp => by simp at hp⟩
  | c :: r, h => by
    obtain ⟨x, rfl, hp⟩ := h c List.mem_cons_self
    obtain ⟨l, h1, h2, h3⟩ := rows_of r fun c hc => h c (List.mem_cons_of_mem _ hc)
    refine ⟨x :: l, by rw [List.flatten_cons, h1]; rfl, by simp [h2], fun q hq => ?_⟩
    rcases List.mem_cons.1 hq with rfl | hq
    · exact hp
    · exact h3 q hq
end
section
variable {w0 w : World} {L : List Asrt} {x : Asrt} {a : Option Addr} {xs : List Value}
/-- What could be read at the start can be read still. -/
theorem St.oldRd (h : St w0 NoF L w) (hr : Rd w0 a xs) : Rd w a xs :=
  Rd.dep a xs w0 w (fun k hk => h.keep k (hr.live k hk) (fun hf => hf)) hr
theorem St.oldRdF {F : Nat → Prop} (h : St w0 F L w) (hr : Rd w0 a xs) (hF : ∀ k, rdFoot a xs k → ¬ F k) : Rd w a xs :=
  Rd.dep a xs w0 w (fun k hk => h.keep k (hr.live k hk) (hF k hk)) hr
theorem St.oldApart (h : St w0 NoF L w) (hx : x ∈ L) (he : x.excl = true) (hr : Rd w0 a xs) : ∀ y, rdFoot a xs y → ¬ x.foot y := fun y hy hf => h.mine x hx he y hf (hr.live y hy)
theorem DW.castL {P : Program} {n : Nat} {ops : List Oper} {Q : Post} {done : List Nat} {S : World → Prop} {f : Frm} {w0 : World} {F : Nat → Prop} {L L' : List Asrt} (e : L = L') (h : DW P n ops Q done S f (St w0 F L')) : DW P n ops Q done S f (St w0 F L) := e ▸ h
end
end Go.Hb
