/-
  Many objects of one kind as one. Conditions: none; nothing here speaks of one program.
-/
import Derived.Test.YtomlgnncncjmaaaHb14
namespace Go.Hb
section
variable {α : Type} {f : α → Asrt} {w0 w : World} {F : Nat → Prop} {R : List Asrt} {x : α} {l : List α}
def bunF (f : α → Asrt) (l : List α) : Nat → Prop := fun k => ∃ x ∈ l, (f x).foot k
def bun (f : α → Asrt) (l : List α) : Asrt := .ex (bunF f l) (fun w => (∀ x ∈ l, (f x).holds w) ∧ (l.Pairwise fun x y => ∀ k, (f x).foot k → ¬ (f y).foot k) ∧ ∀ k, bunF f l k → k < w.heap.size)
theorem bun_dep (hd : ∀ x, (f x).dep) (l : List α) : (bun f l).dep := by
  intro w w' hk ⟨h1, h2, h3⟩
  refine ⟨fun x hx => hd x w w' (fun k hf => hk k ⟨x, hx, hf⟩) (h1 x hx), h2, fun k hf => lt_of_same (hk k hf) (h3 k hf)⟩
theorem St.bun_nil (hd : ∀ x, (f x).dep) (h : St w0 F R w) : St w0 F (bun f [] :: R) w :=
  h.push (Grew.refl w) ⟨fun _ h => (by cases h), List.Pairwise.nil, fun k ⟨_, hx, _⟩ => (by cases hx)⟩ (fun k ⟨_, hx, _⟩ => (by cases hx)) (bun_dep hd [])
theorem St.bun_snoc (hd : ∀ x, (f x).dep) (he : ∀ x, (f x).excl = true) (h : St w0 F (f x :: bun f l :: R) w) : St w0 F (bun f (l ++ [x]) :: R) w := by
  have hb : (bun f l).holds w := h.g1
  obtain ⟨b1, b2, b3⟩ := hb
  have hdis := (List.pairwise_cons.1 h.dis).1 (bun f l) (by simp) (by simp [he])
  refine h.merge (he x) rfl ⟨?_, ?_, ?_⟩ ?_ (bun_dep hd _)
  · intro y hy
    rcases List.mem_append.1 hy with hy | hy
    · exact b1 y hy
    · have : y = x := by simpa using hy
      subst this; exact h.g0
  · refine List.pairwise_append.2 ⟨b2, List.pairwise_singleton _ _, fun a ha b hb k hk hk2 => ?_⟩
    have : b = x := by simpa using hb
    subst this
    exact hdis k hk2 ⟨a, ha, hk⟩
  · rintro k ⟨y, hy, hk⟩
    rcases List.mem_append.1 hy with hy | hy
    · exact b3 k ⟨y, hy, hk⟩
    · have : y = x := by simpa using hy
      subst this; exact h.live _ (mH _ _) k hk
  · rintro k ⟨y, hy, hk⟩
    rcases List.mem_append.1 hy with hy | hy
    · exact .inr ⟨y, hy, hk⟩
    · have : y = x := by simpa using hy
      subst this; exact .inl hk
theorem St.bun_head (hd : ∀ x, (f x).dep) (h : St w0 F (bun f (x :: l) :: R) w) : St w0 F (f x :: bun f l :: R) w := by
  have hb : (bun f (x :: l)).holds w := h.g0
  obtain ⟨b1, b2, b3⟩ := hb
  obtain ⟨b4, b5⟩ := List.pairwise_cons.1 b2
  refine h.split rfl (b1 x List.mem_cons_self) ⟨fun y hy => b1 y (List.mem_cons_of_mem _ hy), b5, fun k ⟨y, hy, hk⟩ => b3 k ⟨y, List.mem_cons_of_mem _ hy, hk⟩⟩ (fun k hk => ⟨x, List.mem_cons_self, hk⟩) (fun k ⟨y, hy, hk⟩ => ⟨y, List.mem_cons_of_mem _ hy, hk⟩) (fun k hk ⟨y, hy, hk2⟩ => b4 y hy k hk hk2) (hd x) (bun_dep hd l)
end
end Go.Hb
