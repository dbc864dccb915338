/-
  A calculus of functional frames over the kit's 'Code.wp' and 'wpList': frames are functions from slots to values, worlds are classes of worlds. Conditions: none; nothing here speaks of one program.
-/
import Derived.WalkKit
import Derived.ProofKit
import Derived.BigQuiet
import Derived.Deep.QuietTactic
namespace Go.Hb

abbrev Frm := Nat → Value

def upd (f : Frm) (d : Nat) (v : Value) : Frm := fun t => bif Nat.beq t d then v else f t

def Frm.ev (f : Frm) : Operand → Value
  | .tmp t => f t
  | .const v => v
  | .global g => .pointer (some ⟨g, 0, none⟩)
  | .func g => .func (.func g) #[] #[]

theorem upd_same (f : Frm) (d : Nat) (v : Value) : upd f d v d = v := by
  simp only [upd, show Nat.beq d d = true from Nat.beq_refl d, cond_true]
theorem upd_ne (f : Frm) (d t : Nat) (v : Value) (h : t ≠ d) : upd f d v t = f t := by
  have hb : Nat.beq t d = false := by
    cases hx : Nat.beq t d with
    | false => rfl
    | true => exact (h (Nat.eq_of_beq_eq_true hx)).elim
  simp only [upd, hb, cond_false]

/-- The frame of the model reads as the function f; it has n slots. -/
def Fits (n : Nat) (a : Act) (f : Frm) : Prop := a.defers = [] ∧ a.tmps.size = n ∧ ∀ t, a.tmps.getD t undef = f t

theorem Fits.eval {n : Nat} {a : Act} {f : Frm} (h : Fits n a f) : a.eval = f.ev := by
  funext x
  cases x with
  | tmp t => exact h.2.2 t
  | const v => rfl
  | global g => rfl
  | func g => rfl

theorem Fits.put {n : Nat} {a : Act} {f : Frm} {d : Nat} (v : Value) (h : Fits n a f) (hd : Nat.blt d n = true) : Fits n (a.put (some d) v) (upd f d v) := by
  obtain ⟨h1, h2, h3⟩ := h
  have hd' : d < a.tmps.size := by rw [h2]; exact Nat.le_of_ble_eq_true hd
  refine ⟨h1, by simp [Act.put, h2], fun t => ?_⟩
  have h3t := h3 t
  by_cases htd : t = d
  · subst htd
    rw [upd_same]
    simp [Act.put, Array.getD_eq_getD_getElem?, hd']
  · rw [upd_ne _ _ _ _ htd, ← h3t]
    simp only [Act.put, Array.getD_eq_getD_getElem?]
    rw [Array.getElem?_setIfInBounds_ne (by omega)]

theorem Fits.put_none {n : Nat} {a : Act} {f : Frm} (v : Value) (h : Fits n a f) : Fits n (a.put none v) f := h

abbrev Post := Exit → Frm → World → Prop

def lift (n : Nat) (Q : Post) : Exit → Act → World → Prop := fun e a w => ∃ f, Fits n a f ∧ Q e f w

/-- The rest l of a region's operations, from every world of the class C. -/
def LW (P : Program) (n : Nat) (ops : List Oper) (l : List Oper) (Q : Post) (f : Frm) (C : World → Prop) : Prop :=
  ∀ w, C w → ∀ a, Fits n a f → wpList P ops.toArray (lift n Q) l a w

/-- A piece of code, from every world of the class C. -/
def CW (P : Program) (n : Nat) (c : Code) (Q : Post) (f : Frm) (C : World → Prop) : Prop :=
  ∀ w, C w → ∀ a, Fits n a f → c.wp P (lift n Q) a w

/-- What is asked at an exit. -/
def At (Q : Post) (e : Exit) (f : Frm) (C : World → Prop) : Prop := ∀ w, C w → Q e f w

def thn (P : Program) (n : Nat) (y : Code) (Q : Post) : Post
  | .normal, f, w => CW P n y Q f (fun w' => w' = w)
  | e, f, w => Q e f w

def blk (id : Nat) (Q : Post) : Post
  | .exit j, f, w => bif Nat.beq j id then Q .normal f w else Q (.exit j) f w
  | e, f, w => Q e f w

section
variable {P : Program} {n : Nat} {Q : Post} {f : Frm} {C : World → Prop}

theorem CW.at {c : Code} (h : CW P n c Q f C) {w : World} (hw : C w) : CW P n c Q f (fun w' => w' = w) := fun _ e => e ▸ h w hw
theorem CW.of {c : Code} (h : ∀ w, C w → CW P n c Q f (fun w' => w' = w)) : CW P n c Q f C := fun w hw => h w hw w rfl
theorem LW.of {ops l : List Oper} (h : ∀ w, C w → LW P n ops l Q f (fun w' => w' = w)) : LW P n ops l Q f C := fun w hw => h w hw w rfl
theorem CW.sub {c : Code} {D : World → Prop} (h : CW P n c Q f D) (hs : ∀ w, C w → D w) : CW P n c Q f C := fun w hw => h w (hs w hw)
theorem LW.sub {ops l : List Oper} {D : World → Prop} (h : LW P n ops l Q f D) (hs : ∀ w, C w → D w) : LW P n ops l Q f C := fun w hw => h w (hs w hw)


theorem CW.seq {x y : Code} (h : CW P n x (thn P n y Q) f C) : CW P n (.seq x y) Q f C := by
  intro w hw a ha
  refine wp_seq (Code.wp_mono (fun e a' w' hq => ?_) (h w hw a ha))
  obtain ⟨f', hf', hq⟩ := hq
  cases e with
  | normal => exact hq w' rfl a' hf'
  | exit id => exact ⟨f', hf', hq⟩
  | goto l => exact ⟨f', hf', hq⟩
  | ret => exact ⟨f', hf', hq⟩
  | panic ch => exact ⟨f', hf', hq⟩
  | outgrown => exact ⟨f', hf', hq⟩

theorem At.thn {y : Code} (h : CW P n y Q f C) : At (Hb.thn P n y Q) .normal f C := fun _ hw => h.at hw
theorem At.thn_exit {y : Code} {id : Nat} (h : At Q (.exit id) f C) : At (Hb.thn P n y Q) (.exit id) f C := h
theorem At.thn_ret {y : Code} (h : At Q .ret f C) : At (Hb.thn P n y Q) .ret f C := h
theorem At.blk {id : Nat} (h : At Q .normal f C) : At (Hb.blk id Q) .normal f C := h
theorem At.blk_ret {id : Nat} (h : At Q .ret f C) : At (Hb.blk id Q) .ret f C := h
theorem At.blk_here {id : Nat} (h : At Q .normal f C) : At (Hb.blk id Q) (.exit id) f C := fun w hw => by
  have := h w hw
  simpa only [Hb.blk, show Nat.beq id id = true from Nat.beq_refl id, cond_true] using this
theorem At.blk_other {id j : Nat} (hj : Nat.beq j id = false) (h : At Q (.exit j) f C) : At (Hb.blk id Q) (.exit j) f C := fun w hw => by
  have := h w hw
  simpa only [Hb.blk, hj, cond_false] using this

theorem CW.skip (h : At Q .normal f C) : CW P n .skip Q f C := fun w hw _ ha => wp_skip ⟨f, ha, h w hw⟩
theorem CW.ret (h : At Q .ret f C) : CW P n .ret Q f C := fun w hw _ ha => wp_ret ⟨f, ha, h w hw⟩
theorem CW.exit {id : Nat} (h : At Q (.exit id) f C) : CW P n (.exit id) Q f C := fun w hw _ ha => wp_exit ⟨f, ha, h w hw⟩

theorem CW.block {id : Nat} {c : Code} (h : CW P n c (blk id Q) f C) : CW P n (.block id c) Q f C := by
  intro w hw a ha
  refine wp_block (Code.wp_mono (fun e a' w' hq => ?_) (h w hw a ha))
  obtain ⟨f', hf', hq⟩ := hq
  cases e with
  | normal => exact ⟨f', hf', hq⟩
  | exit j =>
    simp only [Hb.blk] at hq
    simp only [Exit.inBlock]
    by_cases hj : j = id
    · subst hj
      simp only [show Nat.beq j j = true from Nat.beq_refl j, cond_true] at hq
      rw [if_pos rfl]; exact ⟨f', hf', hq⟩
    · have hb : Nat.beq j id = false := by
        cases hx : Nat.beq j id with
        | false => rfl
        | true => exact (hj (Nat.eq_of_beq_eq_true hx)).elim
      simp only [hb, cond_false] at hq
      rw [if_neg hj]; exact ⟨f', hf', hq⟩
  | goto l => exact ⟨f', hf', hq⟩
  | ret => exact ⟨f', hf', hq⟩
  | panic ch => exact ⟨f', hf', hq⟩
  | outgrown => exact ⟨f', hf', hq⟩

theorem CW.cond {c : Operand} {x y : Code} {b : Bool} (hb : f.ev c = .bool b) (ht : b = true → CW P n x Q f C) (hf : b = false → CW P n y Q f C) : CW P n (.cond c x y) Q f C := by
  intro w hw a ha
  have he : a.eval c = .bool b := by rw [ha.eval]; exact hb
  exact wp_cond_split he (fun h => ht h w hw a ha) (fun h => hf h w hw a ha)
theorem CW.cond_true {c : Operand} {x y : Code} (hb : f.ev c = .bool true) (ht : CW P n x Q f C) : CW P n (.cond c x y) Q f C :=
  CW.cond hb (fun _ => ht) (fun h => by cases h)
theorem CW.cond_false {c : Operand} {x y : Code} (hb : f.ev c = .bool false) (hf : CW P n y Q f C) : CW P n (.cond c x y) Q f C :=
  CW.cond hb (fun h => by cases h) (fun _ => hf)

theorem CW.region {id : Nat} {l : List Oper} (h : LW P n l l Q f C) : CW P n (.region id l.toArray false) Q f C :=
  fun w hw a ha => wp_region_lit (h w hw a ha)

/-! ### loops: the slots M may have turned; the others are as in f -/
def mix (M : List Nat) (g f : Frm) : Frm := fun t => bif M.contains t then g t else f t
def Has (f : Frm) : List (Nat × Value) → Prop
  | [] => True
  | p :: r => f p.1 = p.2 ∧ Has f r
def updL (f : Frm) : List (Nat × Value) → Frm
  | [] => f
  | p :: r => upd (updL f r) p.1 p.2
/-- g is f but for the slots M. -/
def Out (M : List Nat) (f g : Frm) : Prop := ∀ t, M.contains t = false → g t = f t
theorem Out.refl (M : List Nat) (f : Frm) : Out M f f := fun _ _ => rfl
theorem Out.upd {M : List Nat} {f g : Frm} {d : Nat} {v : Value} (hd : M.contains d = true) (h : Out M f g) : Out M f (upd g d v) := by
  intro t ht
  rw [upd_ne]
  · exact h t ht
  · intro e; subst e; rw [hd] at ht; cases ht
theorem Out.mix {M : List Nat} {f g : Frm} : Out M f (mix M g f) := by
  intro t ht; simp only [Hb.mix, ht, cond_false]
theorem Out.updL {M : List Nat} {f g : Frm} : ∀ {vs : List (Nat × Value)}, (vs.all fun p => M.contains p.1) = true → Out M f g → Out M f (updL g vs)
  | [], _, h => h
  | p :: r, hv, h => by
    simp only [List.all_cons, Bool.and_eq_true] at hv
    exact Out.upd hv.1 (Out.updL hv.2 h)
theorem updL_has {f g : Frm} : ∀ {vs : List (Nat × Value)}, Has f vs → (∀ t, (vs.any fun p => Nat.beq t p.1) = false → g t = f t) → updL g vs = f := by
  intro vs
  induction vs generalizing g with
  | nil => intro _ h; funext t; exact h t rfl
  | cons p r ih =>
    intro hh hg
    funext t
    simp only [updL]
    by_cases hp : t = p.1
    · subst hp; rw [upd_same]; exact hh.1.symm
    · rw [upd_ne _ _ _ _ hp]
      have hb : Nat.beq t p.1 = false := by
        cases hx : Nat.beq t p.1 with
        | false => rfl
        | true => exact (hp (Nat.eq_of_beq_eq_true hx)).elim
      -- g may part from f at p.1 alone
      have : updL (upd g p.1 (f p.1)) r = f := ih hh.2 (fun s hs => by
        by_cases hsp : s = p.1
        · subst hsp; rw [upd_same]
        · rw [upd_ne _ _ _ _ hsp]
          refine hg s ?_
          have hb' : Nat.beq s p.1 = false := by
            cases hx : Nat.beq s p.1 with
            | false => rfl
            | true => exact (hsp (Nat.eq_of_beq_eq_true hx)).elim
          simp [List.any_cons, hb', hs])
      have h2 : ∀ (r : List (Nat × Value)) (g h : Frm), (∀ s, s ≠ p.1 → g s = h s) → ∀ s, s ≠ p.1 → updL g r s = updL h r s := by
        intro r
        induction r with
        | nil => intro g h e; exact e
        | cons q r ih2 =>
          intro g h e s hs
          simp only [updL]
          by_cases hq : s = q.1
          · subst hq; rw [upd_same, upd_same]
          · rw [upd_ne _ _ _ _ hq, upd_ne _ _ _ _ hq]; exact ih2 g h e s hs
      rw [h2 r g (upd g p.1 (f p.1)) (fun s hs => (upd_ne _ _ _ _ hs).symm) t hp, this]

/-- A frame that has the values vs and is f outside of M, as a term. -/
theorem frame_form {M : List Nat} {f g : Frm} {vs : List (Nat × Value)} (ho : Out M f g) (hh : Has g vs) : g = updL (mix M g f) vs := by
  refine (updL_has hh (fun t _ => ?_)).symm
  simp only [mix]
  cases hc : M.contains t with
  | true => rfl
  | false => exact (ho t hc).symm

/-- A loop: i: what tells one round from another; vs i: the slots that are known; D i: the worlds. -/
def again {α : Type} (M : List Nat) (f : Frm) (I : α → Prop) (vs : α → List (Nat × Value)) (D : α → World → Prop) (μ : α → Nat) (i : α) (Q : Post) : Post
  | .normal, g, w => ∃ j, I j ∧ Out M f g ∧ Has g (vs j) ∧ D j w ∧ μ j < μ i
  | e, g, w => Q e g w

theorem CW.loop {α : Type} (M : List Nat) (I : α → Prop) (vs : α → List (Nat × Value)) (D : α → World → Prop) (μ : α → Nat) {c : Code}
    (start : ∀ w, C w → ∃ i, I i ∧ Has f (vs i) ∧ D i w)
    (round : ∀ i g, I i → CW P n c (again M f I vs D μ i Q) (updL (mix M g f) (vs i)) (D i)) : CW P n (.loop c) Q f C := by
  intro w hw a ha b k cs
  obtain ⟨i0, hI0, hv0, hD0⟩ := start w hw
  have key : ∀ m i g a' w', I i → μ i = m → Fits n a' g → Out M f g → Has g (vs i) → D i w' →
      ∃ e a₂ w₂, lift n Q e a₂ w₂ ∧ Arrives P (lone (b.at a' (.code c :: .inLoop c :: k)) cs w') b k cs e a₂ w₂ := by
    intro m
    induction m using Nat.strongRecOn with
    | _ m ih =>
      intro i g a' w' hI hm hfit ho hh hD
      obtain ⟨e, a₁, w₁, ⟨g₁, hfit₁, hq⟩, harr⟩ := round i g hI w' hD a' (by rw [← frame_form ho hh]; exact hfit) b (.inLoop c :: k) cs
      cases e with
      | normal =>
        obtain ⟨j, hI₁, ho₁, hh₁, hD₁, hlt⟩ := hq
        obtain ⟨e₂, a₂, w₂, hq₂, harr₂⟩ := ih (μ j) (hm ▸ hlt) j g₁ a₁ w₁ hI₁ rfl hfit₁ ho₁ hh₁ hD₁
        exact ⟨e₂, a₂, w₂, hq₂, .of_steps (Steps.trans harr (.one step_inLoop)) harr₂⟩
      | exit id => exact ⟨_, a₁, w₁, ⟨g₁, hfit₁, hq⟩, .pass (x := .inLoop c) rfl (fun _ _ => .inl (by simp)) harr⟩
      | goto l => exact ⟨_, a₁, w₁, ⟨g₁, hfit₁, hq⟩, .pass (x := .inLoop c) rfl (fun _ _ => .inl (by simp)) harr⟩
      | ret => exact ⟨_, a₁, w₁, ⟨g₁, hfit₁, hq⟩, .pass (x := .inLoop c) rfl (fun _ _ => .inl (by simp)) harr⟩
      | panic ch => exact ⟨_, a₁, w₁, ⟨g₁, hfit₁, hq⟩, .pass (x := .inLoop c) rfl (fun _ _ => .inl (by simp)) harr⟩
      | outgrown => exact ⟨_, a₁, w₁, ⟨g₁, hfit₁, hq⟩, .pass (x := .inLoop c) rfl (fun _ _ => .inl (by simp)) harr⟩
  obtain ⟨e, a', w', hq, harr⟩ := key (μ i0) i0 f a w hI0 rfl ha (Out.refl M f) hv0 hD0
  exact ⟨e, a', w', hq, .of_steps (.one step_loop) harr⟩
end
end Go.Hb
