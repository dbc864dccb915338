/-
  What is known of the memory in a world: a list of assertions, each with the blocks that it speaks of; the exclusive ones lie apart from all others. Conditions: none; nothing here speaks of one program.
-/
import Derived.Test.YtomlgnncncjmaaaHb2
namespace Go.Hb

inductive Asrt
  | own (b : Nat) (o : Obj)
  | ex (B : Nat → Prop) (φ : World → Prop)
  | rd (B : Nat → Prop) (φ : World → Prop)

def Asrt.foot : Asrt → Nat → Prop
  | .own b _ => fun k => k = b
  | .ex B _ => B
  | .rd B _ => B
def Asrt.holds : Asrt → World → Prop
  | .own b o => fun w => w.heap[b]? = some o
  | .ex _ φ => φ
  | .rd _ φ => φ
def Asrt.excl : Asrt → Bool
  | .rd _ _ => false
  | _ => true
/-- What an assertion says hangs on its blocks alone. -/
def Asrt.dep (a : Asrt) : Prop := ∀ w w' : World, (∀ k, a.foot k → w'.heap[k]? = w.heap[k]?) → a.holds w → a.holds w'
theorem Asrt.dep_own (b : Nat) (o : Obj) : (Asrt.own b o).dep := fun w w' hk h => by
  have := hk b rfl
  show w'.heap[b]? = some o
  rw [this]; exact h

def NoF : Nat → Prop := fun _ => False

/-- The world w, as it has come of w0: outside of F nothing that was there has turned; the assertions L hold. -/
structure St (w0 : World) (F : Nat → Prop) (L : List Asrt) (w : World) : Prop where
  os : w.os = w0.os
  tape : w.tape = w0.tape
  output : w.output = w0.output
  size : w0.heap.size ≤ w.heap.size
  keep : ∀ k, k < w0.heap.size → ¬ F k → w.heap[k]? = w0.heap[k]?
  holds : ∀ a ∈ L, a.holds w
  live : ∀ a ∈ L, ∀ k, a.foot k → k < w.heap.size
  mine : ∀ a ∈ L, a.excl = true → ∀ k, a.foot k → k < w0.heap.size → F k
  dis : L.Pairwise fun a b => (a.excl || b.excl) = true → ∀ k, a.foot k → ¬ b.foot k
  dep : ∀ a ∈ L, a.dep

/-- At most new blocks, and what F says. -/
abbrev Keep (F : Nat → Prop) (w w' : World) : Prop := St w F [] w'
abbrev Grew (w w' : World) : Prop := St w NoF [] w'

theorem St.refl (w : World) (F : Nat → Prop) : St w F [] w :=
  ⟨rfl, rfl, rfl, Nat.le_refl _, fun _ _ _ => rfl, fun _ h => (by cases h), fun _ h => (by cases h), fun _ h => (by cases h), List.Pairwise.nil, fun _ h => (by cases h)⟩

instance (w0 : World) (F : Nat → Prop) (L : List Asrt) : Drawn (St w0 F L) where
  drew := fun w h => ⟨h.os, h.tape, h.output, h.size, h.keep, fun a ha => h.dep a ha w _ (fun _ _ => rfl) (h.holds a ha), h.live, h.mine, h.dis, h.dep⟩

section
variable {w0 w w' : World} {F : Nat → Prop} {L L' : List Asrt}

theorem St.toKeep (h : St w0 F L w) : Keep F w0 w := ⟨h.os, h.tape, h.output, h.size, h.keep, fun _ h => (by cases h), fun _ h => (by cases h), fun _ h => (by cases h), List.Pairwise.nil, fun _ h => (by cases h)⟩

theorem St.sub (h : St w0 F L w) (hs : L'.Sublist L) : St w0 F L' w :=
  ⟨h.os, h.tape, h.output, h.size, h.keep, fun a ha => h.holds a (hs.subset ha), fun a ha => h.live a (hs.subset ha), fun a ha => h.mine a (hs.subset ha), h.dis.sublist hs, fun a ha => h.dep a (hs.subset ha)⟩

/-- A call that leaves alone all that was there. -/
theorem St.grew (h : St w0 F L w) (hk : Grew w w') : St w0 F L w' := by
  have hs : ∀ k, k < w.heap.size → w'.heap[k]? = w.heap[k]? := fun k hk' => hk.keep k hk' (fun x => x)
  refine ⟨hk.os.trans h.os, hk.tape.trans h.tape, hk.output.trans h.output, Nat.le_trans h.size hk.size, fun k hk' hF => ?_, fun a ha => ?_, fun a ha k hf => Nat.lt_of_lt_of_le (h.live a ha k hf) hk.size, h.mine, h.dis, h.dep⟩
  · rw [hs k (Nat.lt_of_lt_of_le hk' h.size)]; exact h.keep k hk' hF
  · exact h.dep a ha w w' (fun k hf => hs k (h.live a ha k hf)) (h.holds a ha)

/-- Something new. -/
theorem St.push (h : St w0 F L w) (hk : Grew w w') {a : Asrt} (ha : a.holds w') (hf : ∀ k, a.foot k → w.heap.size ≤ k ∧ k < w'.heap.size) (hd : a.dep) : St w0 F (a :: L) w' := by
  have h' := h.grew hk
  refine ⟨h'.os, h'.tape, h'.output, h'.size, h'.keep, ?_, ?_, ?_, ?_, ?_⟩
  · intro b hb; rcases List.mem_cons.1 hb with rfl | hb
    · exact ha
    · exact h'.holds b hb
  · intro b hb; rcases List.mem_cons.1 hb with rfl | hb
    · exact fun k hk => (hf k hk).2
    · exact h'.live b hb
  · intro b hb; rcases List.mem_cons.1 hb with rfl | hb
    · intro _ k hk' hlt; have := (hf k hk').1; have := h.size; omega
    · exact h'.mine b hb
  · refine List.pairwise_cons.2 ⟨fun b hb _ k hk1 hk2 => ?_, h'.dis⟩
    have := (hf k hk1).1; have := h.live b hb k hk2; omega
  · intro b hb; rcases List.mem_cons.1 hb with rfl | hb
    · exact hd
    · exact h'.dep b hb

theorem Grew.refl (w : World) : Grew w w := St.refl w NoF
theorem Grew.trans {w1 w2 : World} (h : Grew w w1) (h' : Grew w1 w2) : Grew w w2 := St.grew h h'
theorem Grew.alloc (w : World) (o : Obj) : Grew w { w with heap := w.heap.push o } := by
  refine ⟨rfl, rfl, rfl, by simp, fun k hk _ => ?_, fun _ h => (by cases h), fun _ h => (by cases h), fun _ h => (by cases h), List.Pairwise.nil, fun _ h => (by cases h)⟩
  show (w.heap.push o)[k]? = _
  rw [Array.getElem?_push, if_neg (by omega)]
theorem Grew.drew (w : World) : Grew w { w with drawn := w.drawn + 1 } := ⟨rfl, rfl, rfl, Nat.le_refl _, fun _ _ _ => rfl, fun _ h => (by cases h), fun _ h => (by cases h), fun _ h => (by cases h), List.Pairwise.nil, fun _ h => (by cases h)⟩

/-- A new block. -/
theorem St.alloc (h : St w0 F L w) (o : Obj) : St w0 F (.own w.heap.size o :: L) { w with heap := w.heap.push o } := by
  refine h.push (Grew.alloc w o) ?_ ?_ (Asrt.dep_own _ _)
  · show (w.heap.push o)[w.heap.size]? = some o
    simp
  · intro k hk
    have hk' : k = w.heap.size := hk
    subst hk'
    simp

/-- L' is L with a' in the place of a. -/
inductive Sel : List Asrt → Asrt → Asrt → List Asrt → Prop
  | head (a a' : Asrt) (L : List Asrt) : Sel (a :: L) a a' (a' :: L)
  | tail {L L' : List Asrt} {a a' : Asrt} (x : Asrt) (h : Sel L a a' L') : Sel (x :: L) a a' (x :: L')

theorem Sel.mem {a a' : Asrt} (h : Sel L a a' L') : a ∈ L := by
  induction h with
  | head a a' L => exact List.mem_cons_self
  | tail x _ ih => exact List.mem_cons_of_mem _ ih
theorem Sel.back {a a' b : Asrt} (h : Sel L a a' L') (hb : b ∈ L') : b = a' ∨ b ∈ L := by
  induction h with
  | head a a' L =>
    rcases List.mem_cons.1 hb with rfl | hb
    · exact .inl rfl
    · exact .inr (List.mem_cons_of_mem _ hb)
  | tail x _ ih =>
    rcases List.mem_cons.1 hb with rfl | hb
    · exact .inr List.mem_cons_self
    · rcases ih hb with rfl | hb
      · exact .inl rfl
      · exact .inr (List.mem_cons_of_mem _ hb)

/-- The one that is turned apart from all others: those that stay lie apart from it. -/
theorem Sel.others {a a' : Asrt} (h : Sel L a a' L') (hd : L.Pairwise fun a b => (a.excl || b.excl) = true → ∀ k, a.foot k → ¬ b.foot k) (ha : a.excl = true)
    (holds live mine' : Asrt → Prop) (ha' : holds a') (hrest : ∀ b ∈ L, (∀ k, a.foot k → ¬ b.foot k) → holds b) : ∀ b ∈ L', holds b := by
  induction h with
  | head a a' L =>
    intro b hb
    obtain ⟨h1, _⟩ := List.pairwise_cons.1 hd
    rcases List.mem_cons.1 hb with rfl | hb
    · exact ha'
    · exact hrest b (List.mem_cons_of_mem _ hb) (h1 b hb (by simp [ha]))
  | @tail L L' a a' x hs ih =>
    obtain ⟨h1, h2⟩ := List.pairwise_cons.1 hd
    intro b hb
    rcases List.mem_cons.1 hb with rfl | hb
    · refine hrest b List.mem_cons_self (fun k hk1 hk2 => h1 a hs.mem (by simp [ha]) k hk2 hk1)
    · exact ih h2 ha ha' (fun c hc => hrest c (List.mem_cons_of_mem _ hc)) b hb

theorem Sel.dis {a a' : Asrt} (h : Sel L a a' L') (hd : L.Pairwise fun a b => (a.excl || b.excl) = true → ∀ k, a.foot k → ¬ b.foot k) (ha : a.excl = true)
    {N : Nat} (hl : ∀ b ∈ L, ∀ k, b.foot k → k < N) (hf : ∀ k, a'.foot k → a.foot k ∨ N ≤ k) :
    L'.Pairwise fun a b => (a.excl || b.excl) = true → ∀ k, a.foot k → ¬ b.foot k := by
  induction h with
  | head a a' L =>
    obtain ⟨h1, h2⟩ := List.pairwise_cons.1 hd
    refine List.pairwise_cons.2 ⟨fun b hb _ k hk1 hk2 => ?_, h2⟩
    rcases hf k hk1 with h | h
    · exact h1 b hb (by simp [ha]) k h hk2
    · have := hl b (List.mem_cons_of_mem _ hb) k hk2; omega
  | @tail L L' a a' x hs ih =>
    obtain ⟨h1, h2⟩ := List.pairwise_cons.1 hd
    refine List.pairwise_cons.2 ⟨fun b hb hx k hk1 hk2 => ?_, ih h2 ha (fun b hb => hl b (List.mem_cons_of_mem _ hb)) hf⟩
    rcases hs.back hb with rfl | hb
    · rcases hf k hk2 with h | h
      · exact h1 a hs.mem (by simp [ha]) k hk1 h
      · have := hl x List.mem_cons_self k hk1; omega
    · exact h1 b hb hx k hk1 hk2

/-- A step that turns the blocks of one exclusive assertion alone, and makes new ones. -/
theorem St.turn (h : St w0 F L w) {a a' : Asrt} (hs : Sel L a a' L') (he : a.excl = true) (hk : Keep a.foot w w') (ha : a'.holds w')
    (hf : ∀ k, a'.foot k → a.foot k ∨ (w.heap.size ≤ k ∧ k < w'.heap.size)) (hd : a'.dep) : St w0 F L' w' := by
  refine ⟨hk.os.trans h.os, hk.tape.trans h.tape, hk.output.trans h.output, Nat.le_trans h.size hk.size, fun k hk' hF => ?_, ?_, ?_, ?_, ?_, ?_⟩
  · rw [hk.keep k (Nat.lt_of_lt_of_le hk' h.size) (fun hx => hF (h.mine a hs.mem he k hx hk'))]; exact h.keep k hk' hF
  · refine hs.others h.dis he (fun b => b.holds w') (fun _ => True) (fun _ => True) ha fun b hb hap => ?_
    exact h.dep b hb w w' (fun k hf => hk.keep k (h.live b hb k hf) (fun hx => hap k hx hf)) (h.holds b hb)
  · intro b hb k hfk
    rcases hs.back hb with rfl | hb
    · rcases hf k hfk with hx | hx
      · exact Nat.lt_of_lt_of_le (h.live a hs.mem k hx) hk.size
      · exact hx.2
    · exact Nat.lt_of_lt_of_le (h.live b hb k hfk) hk.size
  · intro b hb hbe k hfk hlt
    rcases hs.back hb with rfl | hb
    · rcases hf k hfk with hx | hx
      · exact h.mine a hs.mem he k hx hlt
      · have := h.size; omega
    · exact h.mine b hb hbe k hfk hlt
  · refine hs.dis h.dis he h.live (fun k hfk => ?_)
    rcases hf k hfk with hx | hx
    · exact .inl hx
    · exact .inr hx.1
  · intro b hb
    rcases hs.back hb with rfl | hb
    · exact hd
    · exact h.dep b hb

/-- Something that is read alone, out of what was there at the beginning. -/
theorem St.old (h : St w0 F L w) {B : Nat → Prop} {φ : World → Prop} (hφ : φ w0) (hB : ∀ k, B k → k < w0.heap.size ∧ ¬ F k) (hd : (Asrt.rd B φ).dep) : St w0 F (.rd B φ :: L) w := by
  refine ⟨h.os, h.tape, h.output, h.size, h.keep, ?_, ?_, ?_, ?_, ?_⟩
  · intro b hb; rcases List.mem_cons.1 hb with rfl | hb
    · exact hd w0 w (fun k hk => h.keep k (hB k hk).1 (hB k hk).2) hφ
    · exact h.holds b hb
  · intro b hb; rcases List.mem_cons.1 hb with rfl | hb
    · exact fun k hk => Nat.lt_of_lt_of_le (hB k hk).1 h.size
    · exact h.live b hb
  · intro b hb he; rcases List.mem_cons.1 hb with rfl | hb
    · cases he
    · exact h.mine b hb he
  · refine List.pairwise_cons.2 ⟨fun b hb hx k hk1 hk2 => ?_, h.dis⟩
    have hx' : b.excl = true := by simpa [Asrt.excl] using hx
    exact (hB k hk1).2 (h.mine b hb hx' k hk2 (hB k hk1).1)
  · intro b hb; rcases List.mem_cons.1 hb with rfl | hb
    · exact hd
    · exact h.dep b hb

theorem St.own_at (h : St w0 F L w) {b : Nat} {o : Obj} (hm : Asrt.own b o ∈ L) : w.heap[b]? = some o := h.holds _ hm
end
end Go.Hb
