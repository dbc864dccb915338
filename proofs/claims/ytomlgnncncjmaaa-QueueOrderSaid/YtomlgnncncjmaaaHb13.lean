/-
  Regions that draw their order, where operations may wait: each of those makes memory of its own, or only lets the world grow, and comes up at any time until its value is wanted. Conditions: none; nothing here speaks of one program.
-/
import Derived.Test.YtomlgnncncjmaaaHb12
namespace Go.Hb

/-! ### what is listed -/
theorem lst_foldl_comm (a : Array Bool) (i j : Nat) : (a.setIfInBounds i true).setIfInBounds j true = (a.setIfInBounds j true).setIfInBounds i true := by
  by_cases h : i = j
  · subst h; rfl
  · exact Array.setIfInBounds_comm _ _ h
theorem lst_perm {ops : List Oper} {l l' : List Nat} (h : l.Perm l') : lst ops l = lst ops l' := by
  unfold lst
  exact h.foldl_eq' (fun x _ y _ z => lst_foldl_comm z x y) _
theorem lst_getD {ops : List Oper} : ∀ {l : List Nat} {j : Nat} (d : Bool), j < ops.length → (lst ops l).getD j d = l.contains j := by
  intro l
  have gen : ∀ (l : List Nat) (a : Array Bool) (j : Nat) (d : Bool), j < a.size → (l.foldl (fun l i => l.setIfInBounds i true) a).getD j d = (l.contains j || a.getD j d) := by
    intro l
    induction l with
    | nil => intro a j d _; simp
    | cons x r ih =>
      intro a j d hj
      rw [List.foldl_cons, ih _ _ _ (by simpa using hj)]
      by_cases hx : x = j
      · subst hx; simp [hj]
      · have e : (a.setIfInBounds x true).getD j d = a.getD j d := by simp [Array.getElem?_setIfInBounds_ne hx]
        have e2 : (j == x) = false := by simpa using fun h => hx h.symm
        rw [e, List.contains_cons, e2, Bool.false_or]
  intro j d hj
  unfold lst
  rw [gen _ _ _ _ (by simpa using hj)]
  simp [hj]
theorem ready_more {ops : List Oper} {l : List Nat} {j : Nat} (h : j ∈ Region.ready .any ops.toArray (lst ops l)) : ∀ (l' : List Nat), (∀ x ∈ l', j ≠ x) → j ∈ Region.ready .any ops.toArray (lst ops (l ++ l')) := by
  intro l'
  induction l' generalizing l with
  | nil => intro _; simpa using h
  | cons x r ih =>
    intro hx
    have := ready_mono (i := x) h (hx x List.mem_cons_self)
    rw [← lst_snoc] at this
    have h2 := ih this (fun y hy => hx y (List.mem_cons_of_mem _ hy))
    simpa using h2
theorem ready_new {ops : List Oper} {l : List Nat} {j : Nat} (h : j ∈ Region.ready .any ops.toArray (lst ops l)) : j ∉ l := by
  obtain ⟨h0, o, ho, _⟩ := mem_ready.1 h
  have hj : j < ops.length := by simpa using (Array.getElem?_eq_some_iff.1 ho).1
  rw [lst_getD _ hj] at h0
  simpa using h0

/-! ### assertions, many at once -/
theorem St.pushL {w0 w w' : World} {F : Nat → Prop} {L A : List Asrt} (h : St w0 F L w) (hA : St w NoF A w') (he : ∀ x ∈ A, x.excl = true) : St w0 F (A ++ L) w' := by
  have h' := h.grew hA.toKeep
  have hnew : ∀ a ∈ A, ∀ k, a.foot k → w.heap.size ≤ k := fun a ha k hk => Nat.le_of_not_lt fun hlt => hA.mine a ha (he a ha) k hk hlt
  refine ⟨h'.os, h'.tape, h'.output, h'.size, h'.keep, ?_, ?_, ?_, ?_, ?_⟩
  · intro a ha; rcases List.mem_append.1 ha with ha | ha
    · exact hA.holds a ha
    · exact h'.holds a ha
  · intro a ha; rcases List.mem_append.1 ha with ha | ha
    · exact hA.live a ha
    · exact h'.live a ha
  · intro a ha hx k hk hlt; rcases List.mem_append.1 ha with ha | ha
    · have := hnew a ha k hk; have := h.size; omega
    · exact h'.mine a ha hx k hk hlt
  · refine List.pairwise_append.2 ⟨hA.dis, h'.dis, fun a ha b hb _ k hk hk2 => ?_⟩
    have := hnew a ha k hk; have := h.live b hb k hk2; omega
  · intro a ha; rcases List.mem_append.1 ha with ha | ha
    · exact hA.dep a ha
    · exact h'.dep a ha

/-! ### one that may wait -/
structure PI (P : Program) (n : Nat) (ops : List Oper) where
  i : Nat
  d : Nat
  vs : List (Nat × Value)
  C : World → Prop
  val : Nat → Value
  A : Nat → List Asrt
  ok : ∀ (Q : Exit → Act → World → Prop) (h : Frm) (w : World) (a : Act) (K : Act → World → Prop), Has h vs → C w → Fits n a h → (∀ b w' a', St w NoF (A b) w' → Fits n a' (upd h d (val b)) → K a' w') → wpOp P ops.toArray Q i K a w
  ex : ∀ b, ∀ x ∈ A b, x.excl = true

section
variable {P : Program} {n : Nat} {ops : List Oper} {Q : Post} {f : Frm} {C S : World → Prop}

def sF : List (PI P n ops × Option Nat) → Frm → Frm
  | [], f => f
  | (p, some b) :: r, f => upd (sF r f) p.d (p.val b)
  | (_, none) :: r, f => sF r f
def sL : List (PI P n ops × Option Nat) → List Asrt
  | [] => []
  | (p, some b) :: r => p.A b ++ sL r
  | (_, none) :: r => sL r
def sD : List (PI P n ops × Option Nat) → List Nat
  | [] => []
  | (p, some _) :: r => p.i :: sD r
  | (_, none) :: r => sD r
/-- The slots of those that have not come up; their numbers. -/
def nD : List (PI P n ops × Option Nat) → List Nat
  | [] => []
  | (_, some _) :: r => nD r
  | (p, none) :: r => p.d :: nD r
def nI : List (PI P n ops × Option Nat) → List Nat
  | [] => []
  | (_, some _) :: r => nI r
  | (p, none) :: r => p.i :: nI r

variable {σ σ1 σ2 : List (PI P n ops × Option Nat)} {p : PI P n ops} {b : Nat}
theorem sL_set : (sL (σ1 ++ (p, some b) :: σ2)).Perm (p.A b ++ sL (σ1 ++ (p, none) :: σ2)) := by
  induction σ1 with
  | nil => exact List.Perm.refl _
  | cons x r ih =>
    obtain ⟨q, o⟩ := x
    cases o with
    | none => exact ih
    | some c =>
      show (q.A c ++ sL (r ++ (p, some b) :: σ2)).Perm (p.A b ++ (q.A c ++ sL (r ++ (p, none) :: σ2)))
      refine (ih.append_left _).trans ?_
      rw [← List.append_assoc, ← List.append_assoc]
      exact List.perm_append_comm.append_right _
theorem sD_set : (sD (σ1 ++ (p, some b) :: σ2)).Perm (p.i :: sD (σ1 ++ (p, none) :: σ2)) := by
  induction σ1 with
  | nil => exact List.Perm.refl _
  | cons x r ih =>
    obtain ⟨q, o⟩ := x
    cases o with
    | none => exact ih
    | some c => exact (ih.cons q.i).trans (List.Perm.swap _ _ _)
theorem sDnI : ∀ (σ : List (PI P n ops × Option Nat)), (sD σ ++ nI σ).Perm ((σ.map Prod.fst).map PI.i)
  | [] => List.Perm.refl _
  | (p, some b) :: r => (sDnI r).cons p.i
  | (p, none) :: r => by
    show (sD r ++ p.i :: nI r).Perm (p.i :: (r.map Prod.fst).map PI.i)
    exact List.perm_middle.trans ((sDnI r).cons p.i)
theorem sF_off : ∀ {σ : List (PI P n ops × Option Nat)} {t : Nat}, t ∉ (σ.map Prod.fst).map PI.d → sF σ f t = f t
  | [], t, _ => rfl
  | (p, some b) :: r, t, h => by
    simp only [List.map_cons, List.mem_cons, not_or] at h
    show upd _ _ _ t = _
    rw [upd_ne _ _ _ _ h.1, sF_off h.2]
  | (p, none) :: r, t, h => by
    simp only [List.map_cons, List.mem_cons, not_or] at h
    exact sF_off (σ := r) h.2
theorem nD_sub : ∀ {σ : List (PI P n ops × Option Nat)} {t : Nat}, t ∈ nD σ → t ∈ (σ.map Prod.fst).map PI.d
  | (p, some b) :: r, t, h => by simp only [List.map_cons]; exact List.mem_cons_of_mem _ (nD_sub (σ := r) h)
  | (p, none) :: r, t, h => by
    simp only [List.map_cons]
    rcases List.mem_cons.1 h with rfl | h
    · exact List.mem_cons_self
    · exact List.mem_cons_of_mem _ (nD_sub (σ := r) h)
/-- A slot of one that has come up does not hang on what was there before. -/
theorem sF_in {f f' : Frm} : ∀ {σ : List (PI P n ops × Option Nat)} {t : Nat}, ((σ.map Prod.fst).map PI.d).Nodup → t ∈ (σ.map Prod.fst).map PI.d → t ∉ nD σ → sF σ f t = sF σ f' t
  | (p, some b) :: r, t, hn, ht, h => by
    simp only [List.map_cons, List.nodup_cons] at hn
    simp only [List.map_cons] at ht
    show upd _ _ _ t = upd _ _ _ t
    by_cases e : t = p.d
    · subst e; rw [upd_same, upd_same]
    · rw [upd_ne _ _ _ _ e, upd_ne _ _ _ _ e]
      rcases List.mem_cons.1 ht with ht | ht
      · exact absurd ht e
      · exact sF_in (σ := r) hn.2 ht h
  | (p, none) :: r, t, hn, ht, h => by
    simp only [List.map_cons, List.nodup_cons] at hn
    simp only [List.map_cons] at ht
    have h : t ∉ p.d :: nD r := h
    simp only [List.mem_cons, not_or] at h
    rcases List.mem_cons.1 ht with ht | ht
    · exact absurd ht h.1
    · exact sF_in (σ := r) hn.2 ht h.2
theorem sF_set {f : Frm} : ∀ {σ1 : List (PI P n ops × Option Nat)}, (((σ1 ++ (p, none) :: σ2).map Prod.fst).map PI.d).Nodup → sF (σ1 ++ (p, some b) :: σ2) f = upd (sF (σ1 ++ (p, none) :: σ2) f) p.d (p.val b)
  | [], _ => rfl
  | (q, none) :: r, hn => by
    simp only [List.cons_append, List.map_cons, List.nodup_cons] at hn
    exact sF_set (σ1 := r) hn.2
  | (q, some c) :: r, hn => by
    simp only [List.cons_append, List.map_cons, List.nodup_cons] at hn
    have hne : q.d ≠ p.d := fun e => hn.1 (by rw [e]; simp)
    show upd (sF (r ++ (p, some b) :: σ2) f) q.d (q.val c) = upd (upd (sF (r ++ (p, none) :: σ2) f) q.d (q.val c)) p.d (p.val b)
    rw [sF_set (σ1 := r) hn.2]
    funext t
    by_cases h1 : t = q.d
    · subst h1; rw [upd_same, upd_ne _ _ _ _ hne, upd_same]
    · rw [upd_ne _ _ _ _ h1]
      by_cases h2 : t = p.d
      · subst h2; rw [upd_same, upd_same]
      · rw [upd_ne _ _ _ _ h2, upd_ne _ _ _ _ h2, upd_ne _ _ _ _ h1]
theorem nD_set : ∀ {σ1 : List (PI P n ops × Option Nat)} {t : Nat}, t ∈ nD (σ1 ++ (p, none) :: σ2) → t = p.d ∨ t ∈ nD (σ1 ++ (p, some b) :: σ2)
  | [], t, h => List.mem_cons.1 h
  | (q, none) :: r, t, h => by
    rcases List.mem_cons.1 h with rfl | h
    · exact .inr List.mem_cons_self
    · rcases nD_set (σ1 := r) h with h | h
      · exact .inl h
      · exact .inr (List.mem_cons_of_mem _ h)
  | (q, some c) :: r, t, h => nD_set (σ1 := r) h
theorem nI_len : ∀ {σ1 : List (PI P n ops × Option Nat)}, (nI (σ1 ++ (p, none) :: σ2)).length = (nI (σ1 ++ (p, some b) :: σ2)).length + 1
  | [] => rfl
  | (q, none) :: r => by show (nI (r ++ _)).length + 1 = _; exact congrArg (· + 1) (nI_len (σ1 := r))
  | (q, some c) :: r => nI_len (σ1 := r)
theorem nI_find : ∀ {σ : List (PI P n ops × Option Nat)} {j : Nat}, j ∈ nI σ → ∃ σ1 p σ2, σ = σ1 ++ (p, none) :: σ2 ∧ p.i = j
  | (p, none) :: r, j, h => by
    rcases List.mem_cons.1 h with rfl | h
    · exact ⟨[], p, r, rfl, rfl⟩
    · obtain ⟨a, q, c, rfl, e⟩ := nI_find (σ := r) h
      exact ⟨(p, none) :: a, q, c, rfl, e⟩
  | (p, some b) :: r, j, h => by
    obtain ⟨a, q, c, rfl, e⟩ := nI_find (σ := r) h
    exact ⟨(p, some b) :: a, q, c, rfl, e⟩

variable {w0 : World} {F : Nat → Prop} {L : List Asrt} {pend : List (PI P n ops)} {done : List Nat}

/-- The state where of those that may wait some have come up. -/
def PS (P : Program) (n : Nat) (ops : List Oper) (Q : Post) (done : List Nat) (S : World → Prop) (f : Frm) (w0 : World) (F : Nat → Prop) (L : List Asrt) (σ : List (PI P n ops × Option Nat)) : Prop :=
  ∀ w, St w0 F (L ++ sL σ) w → ∀ g, (∀ t, t ∉ nD σ → g t = sF σ f t) → ∀ a, Fits n a g →
    wpAnyH P .any ops.toArray (lift n (only fun f w => Q .normal f w)) S (ops.length - (done.length + (sD σ).length)) (lst ops (done ++ sD σ)) a w
/-- What is left of a drawn region, where pend may have come up, or not. -/
def DP (P : Program) (n : Nat) (ops : List Oper) (Q : Post) (pend : List (PI P n ops)) (done : List Nat) (S : World → Prop) (f : Frm) (w0 : World) (F : Nat → Prop) (L : List Asrt) : Prop :=
  ∀ σ, σ.map Prod.fst = pend → PS P n ops Q done S f w0 F L σ

/-- Those that may wait can come up now. -/
def PAll (f : Frm) (w0 : World) (F : Nat → Prop) (L : List Asrt) : List (PI P n ops) → Prop
  | [] => True
  | p :: r => Has f p.vs ∧ (∀ A w, St w0 F (L ++ A) w → p.C w) ∧ PAll f w0 F L r
theorem PAll.get : ∀ {pend : List (PI P n ops)}, PAll f w0 F L pend → ∀ p ∈ pend, Has f p.vs ∧ ∀ A w, St w0 F (L ++ A) w → p.C w
  | q :: r, h, p, hp => by
    rcases List.mem_cons.1 hp with rfl | hp
    · exact ⟨h.1, h.2.1⟩
    · exact PAll.get h.2.2 p hp
theorem has_same {f g : Frm} : ∀ {vs : List (Nat × Value)}, Has f vs → (∀ q ∈ vs, g q.1 = f q.1) → Has g vs
  | [], _, _ => trivial
  | q :: r, h, hg => ⟨(hg q List.mem_cons_self).trans h.1, has_same h.2 fun x hx => hg x (List.mem_cons_of_mem _ hx)⟩
/-- Tests on numbers and slots alone. -/
def pOk (pend : List (PI P n ops)) : Bool :=
  decide (pend.map PI.i).Nodup && decide (pend.map PI.d).Nodup && pend.all fun p => p.vs.all fun q => !(pend.map PI.d).contains q.1
def pOkL (is ds : List Nat) (vss : List (List Nat)) : Bool := decide is.Nodup && decide ds.Nodup && vss.all fun l => l.all fun q => !ds.contains q
theorem pOk_of {is ds : List Nat} {vss : List (List Nat)} (h1 : pend.map PI.i = is) (h2 : pend.map PI.d = ds) (h3 : (pend.map fun p => p.vs.map Prod.fst) = vss) (h : pOkL is ds vss = true) : pOk pend = true := by
  subst h1 h2 h3
  simpa [pOk, pOkL, List.all_map, Function.comp_def] using h

theorem PS.exec (hp : pOk pend = true) (hall : PAll f w0 F L pend) (hS : ∀ A w, St w0 F (L ++ A) w → S w) (he : σ1.map Prod.fst ++ p :: σ2.map Prod.fst = pend) (hlen : done.length + (sD (σ1 ++ (p, none) :: σ2)).length < ops.length)
    (ih : ∀ b, PS P n ops Q done S f w0 F L (σ1 ++ (p, some b) :: σ2)) {w : World} (hw : St w0 F (L ++ sL (σ1 ++ (p, none) :: σ2)) w) {g : Frm} (hg : ∀ t, t ∉ nD (σ1 ++ (p, none) :: σ2) → g t = sF (σ1 ++ (p, none) :: σ2) f t) {a : Act} (ha : Fits n a g) {fuel : Nat} (hf : ops.length - (done.length + (sD (σ1 ++ (p, none) :: σ2)).length) = fuel + 1) :
    wpOp P ops.toArray (lift n (only fun f w => Q .normal f w)) p.i (fun a' w' => S w' ∧ wpAnyH P .any ops.toArray (lift n (only fun f w => Q .normal f w)) S fuel ((lst ops (done ++ sD (σ1 ++ (p, none) :: σ2))).setIfInBounds p.i true) a' w') a w := by
  have hpm : p ∈ pend := by rw [← he]; simp
  obtain ⟨hh, hC⟩ := hall.get p hpm
  simp only [pOk, Bool.and_eq_true, decide_eq_true_eq, List.all_eq_true] at hp
  obtain ⟨⟨hn1, hn2⟩, hn3⟩ := hp
  have hmap : ∀ o, (σ1 ++ (p, o) :: σ2).map Prod.fst = pend := fun o => by rw [List.map_append, List.map_cons]; exact he
  have hd2 : (((σ1 ++ (p, none) :: σ2).map Prod.fst).map PI.d).Nodup := by rw [hmap]; exact hn2
  refine p.ok _ g w a _ (has_same hh fun q hq => ?_) (hC _ _ hw) ha fun b w' a' hb ha' => ?_
  · have h3 := hn3 p hpm q hq
    have h4 : q.1 ∉ ((σ1 ++ (p, none) :: σ2).map Prod.fst).map PI.d := by rw [hmap]; simpa using h3
    rw [hg _ (fun hx => h4 (nD_sub hx)), sF_off h4]
  · have h1 : St w0 F (L ++ sL (σ1 ++ (p, some b) :: σ2)) w' := by
      refine (hw.pushL hb (p.ex b)).perm ?_
      refine List.Perm.trans ?_ (sL_set.symm.append_left L)
      rw [← List.append_assoc, ← List.append_assoc]
      exact List.perm_append_comm.append_right _
    refine ⟨hS _ _ h1, ?_⟩
    have h2 := ih b w' h1 (upd g p.d (p.val b)) (fun t ht => ?_) a' ha'
    · have e1 : lst ops (done ++ sD (σ1 ++ (p, some b) :: σ2)) = (lst ops (done ++ sD (σ1 ++ (p, none) :: σ2))).setIfInBounds p.i true := by
        rw [← lst_snoc]
        refine lst_perm ?_
        rw [List.append_assoc]
        exact (sD_set.trans (List.perm_append_comm (l₁ := [p.i]))).append_left done
      have e2 : ops.length - (done.length + (sD (σ1 ++ (p, some b) :: σ2)).length) = fuel := by
        have := (sD_set (σ1 := σ1) (σ2 := σ2) (p := p) (b := b)).length_eq
        simp only [List.length_cons] at this
        omega
      rw [e1, e2] at h2
      exact h2
    · rw [sF_set hd2]
      by_cases e : t = p.d
      · subst e; rw [upd_same, upd_same]
      · rw [upd_ne _ _ _ _ e, upd_ne _ _ _ _ e]
        refine hg t fun hx => ?_
        rcases nD_set (b := b) hx with h | h
        · exact e h
        · exact ht h

theorem DP.begin (pend : List (PI P n ops)) (h : DP P n ops Q pend done S f w0 F L) : DW P n ops Q done S f (St w0 F L) := by
  intro w hw a ha
  have key : ∀ (pd : List (PI P n ops)), sL (pd.map fun p => (p, (none : Option Nat))) = [] ∧ sD (pd.map fun p => (p, (none : Option Nat))) = [] ∧ ∀ f, sF (pd.map fun p => (p, (none : Option Nat))) f = f := by
    intro pd
    induction pd with
    | nil => exact ⟨rfl, rfl, fun _ => rfl⟩
    | cons q r ih => exact ⟨ih.1, ih.2.1, ih.2.2⟩
  obtain ⟨k1, k2, k3⟩ := key pend
  have := h (pend.map fun p => (p, none)) (by simp [List.map_map, Function.comp_def]) w (by rw [k1, List.append_nil]; exact hw) f (fun t _ => by rw [k3]) a ha
  rw [k2, List.append_nil] at this
  exact this
theorem DP.nil (h : DW P n ops Q done S f (St w0 F L)) : DP P n ops Q [] done S f w0 F L := by
  intro σ hσ w hw g hg a ha
  have : σ = [] := List.map_eq_nil_iff.1 hσ
  subst this
  have e : g = f := funext fun t => hg t (by simp [nD])
  subst e
  have := h w (by simpa [sL] using hw) a ha
  simpa [sD] using this
/-- One more that may wait. -/
theorem DP.more (p : PI P n ops) (h : DP P n ops Q (p :: pend) done S f w0 F L) : DP P n ops Q pend done S f w0 F L := by
  intro σ hσ w hw g hg a ha
  refine h ((p, none) :: σ) (by simp [hσ]) w hw g (fun t ht => hg t fun hx => ht (List.mem_cons_of_mem _ hx)) a ha

theorem sD_le : ∀ (σ : List (PI P n ops × Option Nat)), (sD σ).length + (nI σ).length = σ.length
  | [] => rfl
  | (p, some b) :: r => by have := sD_le r; simp only [sD, nI, List.length_cons]; omega
  | (p, none) :: r => by have := sD_le r; simp only [sD, nI, List.length_cons]; omega

/-- The walk goes on behind an operation that came up, whatever of those that may wait had come up. -/
def pnext (P : Program) (n : Nat) (ops : List Oper) (Q : Post) (pend : List (PI P n ops)) (done : List Nat) (S : World → Prop) (w0 : World) (F : Nat → Prop) (g : Frm) (A : List Asrt) : Post :=
  only fun f' w' => ∃ (L' : List Asrt) (f'' : Frm), (∀ t, f' t = bif (pend.map PI.d).contains t then g t else f'' t) ∧ St w0 F (L' ++ A) w' ∧ (∀ A w, St w0 F (L' ++ A) w → S w) ∧ DP P n ops Q pend done S f'' w0 F L'

theorem wpOp_of_LR {R : Frm → World → Prop} {i : Nat} {o : Oper} (hi : ops[i]? = some o) {w : World} {a : Act} (ha : Fits n a f) (hC : C w) (h : LR false P n ops [o] (only R) f C) {K : Act → World → Prop} {Qx : Exit → Act → World → Prop}
    (hK : ∀ a' f' w', Fits n a' f' → R f' w' → K a' w') : wpOp P ops.toArray Qx i K a w := by
  have h1 := h w hC a ha
  have ho : ops.toArray[i]? = some o := by simpa using hi
  unfold wpOp
  simp only [ho]
  simp only [wpList] at h1
  have conv : ∀ a' w', lift n (only R) .normal a' w' → K a' w' := by
    intro a' w' hq
    obtain ⟨f', hf', _, hR⟩ := hq
    exact hK a' f' w' hf' hR
  split
  · rename_i hwn
    rw [if_pos hwn] at h1
    rcases h1 with h1 | ⟨_, a', w', f', hf', he, _⟩
    · refine .inl ?_
      have h2 := Oper.wp_mono conv h1
      unfold Oper.wp at h2 ⊢
      generalize (execOp a.eval o).run P w = r at *
      cases r with
      | ok nx w' =>
        cases nx <;> simp only [Oper.upon] at h2 ⊢
        case value => exact h2
        case skip => exact h2
        case defer => exact h2
        case enter g args =>
          refine Calls.mono h2 fun e w'' he => ?_
          cases e with
          | returned u => exact he
          | panicked c => obtain ⟨_, _, he, _⟩ := he; cases he
          | outgrown => obtain ⟨_, _, _, _, he, _⟩ := he; cases he
        case row => exact h2
      | halt x w' =>
        cases x <;> simp only [Oper.upon] at h2 ⊢
        case panic => obtain ⟨_, _, he, _⟩ := h2; cases he
    · cases he
  · rename_i hwn
    rw [if_neg hwn] at h1
    exact conv _ _ h1

theorem DP.loud (i : Nat) {o : Oper} (hi : ops[i]? = some o)
    (hr : (pOk pend && (Region.ready .any ops.toArray (lst ops done)).contains i && (Region.ready .any ops.toArray (lst ops (done ++ pend.map PI.i))).all (fun j => Nat.beq j i) && !(pend.map PI.i).contains i && Nat.blt (done.length + pend.length) ops.length) = true)
    (hall : PAll f w0 F L pend) (hS : ∀ A w, St w0 F (L ++ A) w → S w)
    (h : ∀ g A LA, LA = L ++ A → LR false P n ops [o] (pnext P n ops Q pend (done ++ [i]) S w0 F g A) (mix (pend.map PI.d) g f) (St w0 F LA)) : DP P n ops Q pend done S f w0 F L := by
  simp only [Bool.and_eq_true] at hr
  obtain ⟨⟨⟨⟨hp, hri⟩, hra⟩, hni⟩, hl⟩ := hr
  have hri : i ∈ Region.ready .any ops.toArray (lst ops done) := by simpa using hri
  have hni : i ∉ pend.map PI.i := by
    intro hx
    have : (pend.map PI.i).contains i = true := List.elem_eq_true_of_mem hx
    rw [this] at hni; cases hni
  have hl := blt_lt hl
  have hp' := hp
  simp only [pOk, Bool.and_eq_true, decide_eq_true_eq, List.all_eq_true] at hp'
  obtain ⟨⟨hn1, hn2⟩, hn3⟩ := hp'
  suffices key : ∀ m σ, (nI σ).length = m → σ.map Prod.fst = pend → PS P n ops Q done S f w0 F L σ from fun σ hσ => key _ σ rfl hσ
  intro m
  induction m with
  | zero | succ m ih =>
    intro σ hm hσ w hw g hg a ha
    have hlen : (sD σ).length + (nI σ).length = pend.length := by rw [sD_le, ← hσ]; simp
    have hdn := sDnI σ
    rw [hσ] at hdn
    obtain ⟨fuel, hfuel⟩ : ∃ fuel, ops.length - (done.length + (sD σ).length) = fuel + 1 := ⟨ops.length - (done.length + (sD σ).length) - 1, by omega⟩
    rw [hfuel]
    have hsD : ∀ x ∈ sD σ, x ∈ pend.map PI.i := fun x hx => hdn.mem_iff.1 (List.mem_append_left _ hx)
    have hir : i ∈ Region.ready .any ops.toArray (lst ops (done ++ sD σ)) := ready_more hri _ fun x hx e => hni (e ▸ hsD x hx)
    refine ⟨fun h0 => (by rw [h0] at hir; cases hir), fun j hj => ?_⟩
    by_cases hjp : j ∈ nI σ
    · first
      | (rw [List.eq_nil_of_length_eq_zero hm] at hjp; cases hjp; done)
      | (obtain ⟨σ1, p, σ2, rfl, rfl⟩ := nI_find hjp
         refine PS.exec hp hall hS (by rw [← hσ, List.map_append, List.map_cons]) (by omega) (fun b => ih _ ?_ ?_) hw hg ha hfuel
         · have := nI_len (σ1 := σ1) (σ2 := σ2) (p := p) (b := b); omega
         · rw [← hσ]; simp)
    · have hjr : j ∈ Region.ready .any ops.toArray (lst ops (done ++ pend.map PI.i)) := by
        have h1 := ready_more hj (nI σ) (fun x hx e => hjp (e ▸ hx))
        rwa [lst_perm (l' := done ++ pend.map PI.i) (by rw [List.append_assoc]; exact hdn.append_left done)] at h1
      have hji : j = i := Nat.eq_of_beq_eq_true (List.all_eq_true.1 hra j hjr)
      subst hji
      have hmix : mix (pend.map PI.d) g f = g := by
        funext t
        simp only [mix]
        cases hc : (pend.map PI.d).contains t with
        | true => rfl
        | false =>
          have ht : t ∉ (σ.map Prod.fst).map PI.d := by
            rw [hσ]; intro hx; have hx' : (pend.map PI.d).contains t = true := List.elem_eq_true_of_mem hx; rw [hx'] at hc; cases hc
          rw [cond_false, hg t (fun hx => ht (nD_sub hx)), sF_off ht]
      have hLR := h g (sL σ) _ rfl
      rw [hmix] at hLR
      refine wpOp_of_LR hi ha hw hLR fun a' f' w' hf' ⟨L', f'', h1, h2, h3, h4⟩ => ⟨h3 _ _ h2, ?_⟩
      have h5 := h4 σ hσ w' h2 f' (fun t ht => ?_) a' hf'
      · have e1 : lst ops (done ++ [j] ++ sD σ) = (lst ops (done ++ sD σ)).setIfInBounds j true := by
          rw [← lst_snoc]
          refine lst_perm ?_
          rw [List.append_assoc, List.append_assoc]
          exact List.perm_append_comm.append_left done
        have e2 : ops.length - ((done ++ [j]).length + (sD σ).length) = fuel := by simp only [List.length_append, List.length_cons, List.length_nil]; omega
        rw [e1, e2] at h5
        exact h5
      · rw [h1 t]
        cases hc : (pend.map PI.d).contains t with
        | true =>
          have ht2 : t ∈ (σ.map Prod.fst).map PI.d := by rw [hσ]; simpa using hc
          rw [cond_true, hg t ht]
          exact sF_in (by rw [hσ]; exact hn2) ht2 ht
        | false =>
          have ht2 : t ∉ (σ.map Prod.fst).map PI.d := by
            rw [hσ]; intro hx; have hx' : (pend.map PI.d).contains t = true := List.elem_eq_true_of_mem hx; rw [hx'] at hc; cases hc
          rw [cond_false, sF_off ht2]

/-- The first one is wanted now. -/
theorem DP.settle {r : List (PI P n ops)}
    (hr : (pOk (p :: r) && (Region.ready .any ops.toArray (lst ops done)).contains p.i && (Region.ready .any ops.toArray (lst ops (done ++ r.map PI.i))).all (fun j => Nat.beq j p.i) && Nat.blt (done.length + r.length) ops.length) = true)
    (hall : PAll f w0 F L (p :: r)) (hS : ∀ A w, St w0 F (L ++ A) w → S w)
    (h : ∀ b, DP P n ops Q r (done ++ [p.i]) S (upd f p.d (p.val b)) w0 F (p.A b ++ L)) : DP P n ops Q (p :: r) done S f w0 F L := by
  simp only [Bool.and_eq_true] at hr
  obtain ⟨⟨⟨hp, hri⟩, hra⟩, hl⟩ := hr
  have hri : p.i ∈ Region.ready .any ops.toArray (lst ops done) := by simpa using hri
  have hl := blt_lt hl
  have hp' := hp
  simp only [pOk, Bool.and_eq_true, decide_eq_true_eq, List.all_eq_true] at hp'
  obtain ⟨⟨hn1, hn2⟩, hn3⟩ := hp'
  have hn1' := List.nodup_cons.1 (show (p.i :: r.map PI.i).Nodup from hn1)
  have hn2' := List.nodup_cons.1 (show (p.d :: r.map PI.d).Nodup from hn2)
  suffices key : ∀ m σ, (nI σ).length = m → σ.map Prod.fst = p :: r → PS P n ops Q done S f w0 F L σ from fun σ hσ => key _ σ rfl hσ
  intro m
  induction m with
  | zero | succ m ih =>
    intro σ hm hσ w hw g hg a ha
    match σ, hσ, hm, hw, hg with
    | (q, some b) :: τ, hσ, hm, hw, hg =>
      simp only [List.map_cons, List.cons.injEq] at hσ
      obtain ⟨rfl, hτ⟩ := hσ
      have h5 := h b τ hτ w (hw.perm (by
        show (L ++ (q.A b ++ sL τ)).Perm (q.A b ++ L ++ sL τ)
        rw [← List.append_assoc]
        exact List.perm_append_comm.append_right _)) g (fun t ht => by
          rw [hg t ht]
          show upd (sF τ f) q.d (q.val b) t = _
          by_cases e : t = q.d
          · subst e
            rw [upd_same, sF_off (by rw [hτ]; exact hn2'.1), upd_same]
          · rw [upd_ne _ _ _ _ e]
            by_cases ht2 : t ∈ (τ.map Prod.fst).map PI.d
            · exact sF_in (by rw [hτ]; exact hn2'.2) ht2 ht
            · rw [sF_off ht2, sF_off ht2, upd_ne _ _ _ _ e]) a ha
      have e1 : lst ops (done ++ [q.i] ++ sD τ) = lst ops (done ++ sD ((q, some b) :: τ)) := by rw [List.append_assoc]; rfl
      have e2 : (done ++ [q.i]).length + (sD τ).length = done.length + (sD ((q, some b) :: τ)).length := by simp [sD]; omega
      rw [e1, e2] at h5
      exact h5
    | (q, none) :: τ, hσ, hm, hw, hg =>
      simp only [List.map_cons, List.cons.injEq] at hσ
      obtain ⟨rfl, hτ⟩ := hσ
      first
      | (simp only [nI, List.length_cons, Nat.add_one_ne_zero] at hm; done)
      | (
      have hlen : (sD τ).length + (nI τ).length = r.length := by rw [sD_le, ← hτ]; simp
      have hdn := sDnI τ
      rw [hτ] at hdn
      have hsd : sD ((q, none) :: τ) = sD τ := rfl
      obtain ⟨fuel, hfuel⟩ : ∃ fuel, ops.length - (done.length + (sD ((q, none) :: τ)).length) = fuel + 1 := ⟨ops.length - (done.length + (sD τ).length) - 1, by rw [hsd]; omega⟩
      rw [hfuel]
      have hsD : ∀ x ∈ sD τ, x ∈ r.map PI.i := fun x hx => hdn.mem_iff.1 (List.mem_append_left _ hx)
      have hir : q.i ∈ Region.ready .any ops.toArray (lst ops (done ++ sD τ)) := ready_more hri _ fun x hx e => hn1'.1 (e ▸ hsD x hx)
      rw [hsd]
      refine ⟨fun h0 => (by rw [h0] at hir; cases hir), fun j hj => ?_⟩
      have hjn : j ∈ nI ((q, none) :: τ) := by
        by_cases hjp : j ∈ nI τ
        · exact List.mem_cons_of_mem _ hjp
        · have hjr : j ∈ Region.ready .any ops.toArray (lst ops (done ++ r.map PI.i)) := by
            have h1 := ready_more hj (nI τ) (fun x hx e => hjp (e ▸ hx))
            rwa [lst_perm (l' := done ++ r.map PI.i) (by rw [List.append_assoc]; exact hdn.append_left done)] at h1
          have hji : j = q.i := Nat.eq_of_beq_eq_true (List.all_eq_true.1 hra j hjr)
          rw [hji]; exact List.mem_cons_self
      obtain ⟨σ1, p', σ2, e, rfl⟩ := nI_find hjn
      have hm' : σ1.map Prod.fst ++ p' :: σ2.map Prod.fst = q :: r := by
        have := congrArg (List.map Prod.fst) e
        rw [List.map_append, List.map_cons, List.map_cons, hτ] at this
        exact this.symm
      rw [← hsd]
      rw [e] at hw hg hm hfuel ⊢
      refine PS.exec hp hall hS hm' (by rw [← e, hsd]; omega) (fun b => ih _ ?_ ?_) hw hg ha hfuel
      · have := nI_len (σ1 := σ1) (σ2 := σ2) (p := p') (b := b); omega
      · rw [← hm']; simp)
/-! ### with literal lists -/
variable {is ds : List Nat} {vss : List (List Nat)}
theorem DP.go (i : Nat) (is ds : List Nat) (vss : List (List Nat)) {o : Oper} (hi : ops[i]? = some o) (h1 : pend.map PI.i = is) (h2 : pend.map PI.d = ds) (h3 : (pend.map fun p => p.vs.map Prod.fst) = vss)
    (hr : (pOkL is ds vss && (Region.ready .any ops.toArray (lst ops done)).contains i && (Region.ready .any ops.toArray (lst ops (done ++ is))).all (fun j => Nat.beq j i) && !is.contains i && Nat.blt (done.length + is.length) ops.length) = true)
    (hall : PAll f w0 F L pend) (hS : ∀ A w, St w0 F (L ++ A) w → S w)
    (h : ∀ g A LA, LA = L ++ A → LR false P n ops [o] (pnext P n ops Q pend (done ++ [i]) S w0 F g A) (mix ds g f) (St w0 F LA)) : DP P n ops Q pend done S f w0 F L := by
  simp only [Bool.and_eq_true] at hr
  have hp := pOk_of h1 h2 h3 hr.1.1.1.1
  have hl : is.length = pend.length := by rw [← h1]; simp
  subst h1 h2
  exact DP.loud i hi (by simp only [Bool.and_eq_true]; exact ⟨⟨⟨⟨hp, hr.1.1.1.2⟩, hr.1.1.2⟩, hr.1.2⟩, by rw [← hl]; exact hr.2⟩) hall hS h
theorem DP.take (i d : Nat) (val : Nat → Value) (A : Nat → List Asrt) (is ds : List Nat) (vss : List (List Nat)) {r : List (PI P n ops)} (hp1 : p.i = i) (hpd : p.d = d) (hpv : p.val = val) (hpA : p.A = A) (h1 : r.map PI.i = is) (h2 : (p :: r).map PI.d = ds) (h3 : ((p :: r).map fun p => p.vs.map Prod.fst) = vss)
    (hr : (pOkL (i :: is) ds vss && (Region.ready .any ops.toArray (lst ops done)).contains i && (Region.ready .any ops.toArray (lst ops (done ++ is))).all (fun j => Nat.beq j i) && Nat.blt (done.length + is.length) ops.length) = true)
    (hall : PAll f w0 F L (p :: r)) (hS : ∀ A w, St w0 F (L ++ A) w → S w)
    (h : ∀ b, DP P n ops Q r (done ++ [i]) S (upd f d (val b)) w0 F (A b ++ L)) : DP P n ops Q (p :: r) done S f w0 F L := by
  simp only [Bool.and_eq_true] at hr
  have hp := pOk_of (pend := p :: r) (is := i :: is) (by rw [List.map_cons, h1, hp1]) h2 h3 hr.1.1.1
  have hl : is.length = r.length := by rw [← h1]; simp
  subst h1 hp1 hpd hpv hpA
  exact DP.settle (by simp only [Bool.and_eq_true]; exact ⟨⟨⟨hp, hr.1.1.2⟩, hr.1.2⟩, by rw [← hl]; exact hr.2⟩) hall hS h

/-! ### those that only read -/
theorem lst_sub {l e : List Nat} {j : Nat} (hj : j < ops.length) (h : (lst ops l).getD j true = true) : (lst ops (l ++ e)).getD j true = true := by
  rw [lst_getD _ hj] at h ⊢
  simp only [List.contains_iff_mem] at h ⊢
  exact List.mem_append_left _ h
theorem free_more {l e : List Nat} {i : Nat} (h : Region.free .any ops.toArray (lst ops l) i = true) : Region.free .any ops.toArray (lst ops (l ++ e)) i = true := by
  unfold Region.free at h ⊢
  split
  · rename_i h0; rw [h0] at h; exact h
  · rename_i oi h0
    rw [h0] at h
    simp only [List.all_eq_true, List.mem_range] at h ⊢
    intro j hj
    have hj' : j < ops.length := by simpa using hj
    have := h j hj
    simp only [Bool.or_eq_true] at this ⊢
    rcases this with (h1 | h1) | h1
    · exact .inl (.inl h1)
    · exact .inl (.inr (lst_sub hj' h1))
    · exact .inr h1
theorem headB_more : ∀ {H l e : List Nat}, headB ops.toArray (lst ops l) H = true → (∀ x ∈ e, x ∉ H) → headB ops.toArray (lst ops (l ++ e)) H = true
  | [], _, _, _, _ => rfl
  | i :: r, l, e, h, he => by
    simp only [headB, Bool.and_eq_true] at h ⊢
    obtain ⟨⟨h1, h2⟩, h3⟩ := h
    refine ⟨⟨?_, free_more h2⟩, ?_⟩
    · have : i ∈ Region.ready .any ops.toArray (lst ops l) := by simpa using h1
      have := ready_more this e (fun x hx e2 => he x hx (e2 ▸ List.mem_cons_self))
      simpa using this
    · rw [← lst_snoc] at h3 ⊢
      have := headB_more (H := r) (e := e) h3 (fun x hx hr => he x hx (List.mem_cons_of_mem _ hr))
      rw [lst_perm (l' := l ++ e ++ [i])] at this
      · exact this
      · rw [List.append_assoc, List.append_assoc]
        exact List.perm_append_comm.append_left l
theorem quiet_go {K : Frm → Prop} {w : World} {R : Frm → World → Prop} : ∀ (H l : List Nat) (fr : Frm) (a : Act) (fuel : Nat), headB ops.toArray (lst ops l) H = true → Region.noSelect ops.toArray = true → QL P n ops S K H fr → Fits n a fr → S w →
    (∀ fr' a', K fr' → Fits n a' fr' → wpAnyH P .any ops.toArray (lift n (only R)) S fuel (lst ops (l ++ H)) a' w) → wpAnyH P .any ops.toArray (lift n (only R)) S (fuel + H.length) (lst ops l) a w
  | [], l, fr, a, fuel, _, _, hq, ha, _, hk => by
    have := hk fr a hq ha
    simpa using this
  | i :: r, l, fr, a, fuel, hB, hs, hq, ha, hS, hk => by
    simp only [headB, Bool.and_eq_true] at hB
    obtain ⟨⟨h1, h2⟩, h3⟩ := hB
    obtain ⟨o, v, ho, hd, hy, hq'⟩ := hq
    have ih := quiet_go (R := R) r (l ++ [i]) _ _ fuel (by rw [lst_snoc]; exact h3) hs hq' (ha.putO o.dst v hd) hS (fun fr' a' hK hf => by
      have := hk fr' a' hK hf
      rw [List.append_assoc]; exact this)
    rw [lst_snoc] at ih
    have e : fuel + (i :: r).length = (fuel + r.length) + 1 := by simp only [List.length_cons]; omega
    rw [e]
    exact wpAnyH_take (by simpa using ho) hs h2 h1 (fun c a w hq => by obtain ⟨_, _, he, _⟩ := hq; cases he) (hy a ha) hS ih
def pq (P : Program) (n : Nat) (ops : List Oper) (Q : Post) (pend : List (PI P n ops)) (done : List Nat) (S : World → Prop) (w0 : World) (F : Nat → Prop) (L : List Asrt) (ds : List Nat) (g : Frm) : Frm → Prop :=
  fun f' => ∃ f'', (∀ t, f' t = bif ds.contains t then g t else f'' t) ∧ DP P n ops Q pend done S f'' w0 F L
theorem DP.quiet (H is ds : List Nat) (h1 : pend.map PI.i = is) (h2 : pend.map PI.d = ds)
    (hr : (decide ds.Nodup && headB ops.toArray (lst ops done) H && Region.noSelect ops.toArray && Nat.ble (done.length + H.length + is.length) ops.length && is.all (fun i => !H.contains i)) = true)
    (hS : ∀ A w, St w0 F (L ++ A) w → S w) (h : ∀ g, QL P n ops S (pq P n ops Q pend (done ++ H) S w0 F L ds g) H (mix ds g f)) : DP P n ops Q pend done S f w0 F L := by
  simp only [Bool.and_eq_true, decide_eq_true_eq] at hr
  obtain ⟨⟨⟨⟨hn2, hB⟩, hs⟩, hl⟩, hd⟩ := hr
  have hl := Nat.le_of_ble_eq_true hl
  have hlen : is.length = pend.length := by rw [← h1]; simp
  subst h1 h2
  intro σ hσ w hw g hg a ha
  have hmix : mix (pend.map PI.d) g f = g := by
    funext t
    simp only [mix]
    cases hc : (pend.map PI.d).contains t with
    | true => rfl
    | false =>
      have ht : t ∉ (σ.map Prod.fst).map PI.d := by
        rw [hσ]; intro hx; have hx' : (pend.map PI.d).contains t = true := List.elem_eq_true_of_mem hx; rw [hx'] at hc; cases hc
      rw [cond_false, hg t (fun hx => ht (nD_sub hx)), sF_off ht]
  have hq := h g
  rw [hmix] at hq
  have hdn := sDnI σ
  rw [hσ] at hdn
  have hsD : ∀ x ∈ sD σ, x ∈ pend.map PI.i := fun x hx => hdn.mem_iff.1 (List.mem_append_left _ hx)
  have hle : (sD σ).length ≤ pend.length := by have := sD_le σ; rw [← hσ, List.length_map]; omega
  have e : ops.length - (done.length + (sD σ).length) = (ops.length - ((done ++ H).length + (sD σ).length)) + H.length := by simp only [List.length_append]; omega
  rw [e]
  refine quiet_go H (done ++ sD σ) g a _ (headB_more hB fun x hx hxH => ?_) hs hq ha (hS _ _ hw) fun fr' a' hK hf => ?_
  · have := List.all_eq_true.1 hd x (hsD x hx)
    have h2 : H.contains x = true := List.elem_eq_true_of_mem hxH
    rw [h2] at this; cases this
  · obtain ⟨f'', h5, h6⟩ := hK
    have := h6 σ hσ w hw fr' (fun t ht => ?_) a' hf
    · rw [lst_perm (l' := done ++ sD σ ++ H)] at this
      · exact this
      · rw [List.append_assoc, List.append_assoc]
        exact List.perm_append_comm.append_left done
    · rw [h5 t]
      cases hc : (pend.map PI.d).contains t with
      | true =>
        have ht2 : t ∈ (σ.map Prod.fst).map PI.d := by rw [hσ]; simpa using hc
        rw [cond_true, hg t ht]
        exact sF_in (by rw [hσ]; exact hn2) ht2 ht
      | false =>
        have ht2 : t ∉ (σ.map Prod.fst).map PI.d := by
          rw [hσ]; intro hx; have hx' : (pend.map PI.d).contains t = true := List.elem_eq_true_of_mem hx; rw [hx'] at hc; cases hc
        rw [cond_false, sF_off ht2]

/-! ### frames that are g at the slots ds, and elsewhere another one -/
inductive MixR (ds : List Nat) (g : Frm) : Frm → Frm → Prop
  | base (f : Frm) : MixR ds g (mix ds g f) f
  | upd {f' f0 : Frm} {d : Nat} {v : Value} (h : MixR ds g f' f0) (hd : ds.contains d = false) : MixR ds g (Hb.upd f' d v) (Hb.upd f0 d v)
theorem MixR.eq {g f' f0 : Frm} (h : MixR ds g f' f0) : ∀ t, f' t = bif ds.contains t then g t else f0 t := by
  induction h with
  | base f => exact fun t => rfl
  | @upd f' f0 d v h hd ih =>
    intro t
    by_cases e : t = d
    · subst e; rw [hd, cond_false, upd_same, upd_same]
    · rw [upd_ne _ _ _ _ e, ih t, upd_ne _ _ _ _ e]
inductive Tl (A : List Asrt) : List Asrt → List Asrt → Prop
  | nil : Tl A A []
  | cons {x : Asrt} {l l' : List Asrt} (h : Tl A l l') : Tl A (x :: l) (x :: l')
theorem Tl.eq {A l l' : List Asrt} (h : Tl A l l') : l = l' ++ A := by
  induction h with
  | nil => rfl
  | cons h ih => rw [ih]; rfl
theorem pq_done {g f' f0 : Frm} (hm : MixR ds g f' f0) (h : DP P n ops Q pend done S f0 w0 F L) : pq P n ops Q pend done S w0 F L ds g f' := ⟨_, hm.eq, h⟩
theorem At.pdone {g f' f0 : Frm} {A LA L' : List Asrt} (h2 : pend.map PI.d = ds) (hm : MixR ds g f' f0) (hL : Tl A LA L') (hS : ∀ A w, St w0 F (L' ++ A) w → S w)
    (h : DP P n ops Q pend done S f0 w0 F L') : At (pnext P n ops Q pend done S w0 F g A) .normal f' (St w0 F LA) := by
  subst h2
  intro w hw
  exact ⟨rfl, L', _, hm.eq, by rw [← hL.eq]; exact hw, hS, h⟩

/-! ### what may wait -/
theorem upd_updL {h : Frm} {vs : List (Nat × Value)} (hh : Has h vs) : updL h vs = h := updL_has hh fun _ _ => rfl
/-- An operation that makes memory of its own. -/
def PI.lr (i d : Nat) (vs : List (Nat × Value)) (val : Nat → Value) (A : Nat → List Asrt) {o : Oper} (hi : ops[i]? = some o) (ex : ∀ b, ∀ x ∈ A b, x.excl = true)
    (h : ∀ h w, LR false P n ops [o] (only fun f' w' => ∃ b, f' = upd (updL h vs) d (val b) ∧ St w NoF (A b) w') (updL h vs) (St w NoF [])) : PI P n ops where
  i := i
  d := d
  vs := vs
  C := fun _ => True
  val := val
  A := A
  ok := fun Q fr w a K hh _ ha hk => by
    have := h fr w
    rw [upd_updL hh] at this
    exact wpOp_of_LR hi ha (St.refl w NoF) this fun a' f' w' hf' ⟨b, e, hs⟩ => hk b w' a' hs (by rw [← e]; exact hf')
  ex := ex
theorem At.made {d b : Nat} {h : Frm} {val : Nat → Value} {A : Nat → List Asrt} {w : World} {f' : Frm} (hf : f' = upd h d (val b)) : At (only fun f' w' => ∃ b, f' = upd h d (val b) ∧ St w NoF (A b) w') .normal f' (St w NoF (A b)) := fun _ hw => ⟨rfl, b, hf, hw⟩
/-- A call that only lets the world grow. -/
def PI.call (i d : Nat) (vs : List (Nat × Value)) (C : World → Prop) (v : Value) {g : FuncId} {xs : List Operand} {args : List Value} {ts : Array TypeId} {T : TypeId} {pp : String} {af : Array Edge} [own : Own P g]
    (hi : ops[i]? = some ⟨some d, .call ⟨.value (.func g), xs.toArray, ts⟩, T, pp, af, none⟩) (hd : Nat.blt d n = true) (hx : ∀ h, xs.map (updL h vs).ev = args)
    (h : ∀ w, C w → CallsTo P g args w fun u w' => u = v ∧ Grew w w') : PI P n ops where
  i := i
  d := d
  vs := vs
  C := C
  val := fun _ => v
  A := fun _ => []
  ok := fun Q fr w a K hh hC ha hk => by
    refine wpOp_of_LR (C := fun u => u = w) hi ha rfl (R := fun f' w' => f' = upd fr d v ∧ Grew w w') (LR.call hd fun w1 e => ?_) fun a' f' w' hf' ⟨e, hs⟩ => hk 0 w' a' hs (by rw [← e]; exact hf')
    subst e
    have hx' := hx fr
    rw [upd_updL hh] at hx'
    rw [hx']
    refine (h w1 hC).mono ?_
    rintro u w' ⟨rfl, hg⟩
    refine LW.sub (D := fun u => u = w') ?_ (fun _ e => e)
    exact LR.nil (m := false) fun w2 e => by subst e; exact ⟨rfl, rfl, hg⟩
  ex := fun _ x hx => by cases hx
/-! ### a drawn region that stores into the first, second or third object: the others stay -/
theorem CW.reg_held1 {id : Nat} {x : Asrt} {L : List Asrt} [hm : Mixed P] (h : DW P n ops Q [] (St w0 F L) f (St w0 F (x :: L))) : CW P n (.region id ops.toArray true) Q f (St w0 F (x :: L)) := CW.reg_held _ h
theorem CW.reg_held2 {id : Nat} {x y : Asrt} {L : List Asrt} [hm : Mixed P] (h : DW P n ops Q [] (St w0 F (x :: L)) f (St w0 F (x :: y :: L))) : CW P n (.region id ops.toArray true) Q f (St w0 F (x :: y :: L)) := CW.reg_held _ h
theorem CW.reg_held3 {id : Nat} {x y z : Asrt} {L : List Asrt} [hm : Mixed P] (h : DW P n ops Q [] (St w0 F (x :: y :: L)) f (St w0 F (x :: y :: z :: L))) : CW P n (.region id ops.toArray true) Q f (St w0 F (x :: y :: z :: L)) := CW.reg_held _ h
theorem CW.reg_held13 {id : Nat} {x y z : Asrt} {L : List Asrt} [hm : Mixed P] (h : DW P n ops Q [] (St w0 F (y :: L)) f (St w0 F (x :: y :: z :: L))) : CW P n (.region id ops.toArray true) Q f (St w0 F (x :: y :: z :: L)) := CW.reg_held _ h
theorem CW.reg_held4 {id : Nat} {x y z u : Asrt} {L : List Asrt} [hm : Mixed P] (h : DW P n ops Q [] (St w0 F (x :: y :: z :: L)) f (St w0 F (x :: y :: z :: u :: L))) : CW P n (.region id ops.toArray true) Q f (St w0 F (x :: y :: z :: u :: L)) := CW.reg_held _ h
theorem St.pair {w : World} {x y : Asrt} {R : List Asrt} (h : St w0 F (x :: y :: R) w) : St w0 F [x, y] w := h.sub (((List.nil_sublist R).cons_cons y).cons_cons x)
theorem St.nilsl {w : World} {L : List Asrt} (E sz : Nat) (h : St w0 F L w) : St w0 F (osl (.slice none 0 0) E sz 0 [] :: L) w := h.newSl ⟨Grew.refl _, World.ownsRow_nil _ _ _ _⟩
theorem St.two {w w' : World} {L L' R : List Asrt} {a a' b : Asrt} (h : St w0 F L w) (st : St w a.foot (a' :: b :: R) w') (he : a.excl = true) (he' : a'.excl = true) (hb : b.excl = true) (hs : Sel L a a' L') : St w0 F (b :: L') w' := h.did1 hs he he' hb st
theorem St.one' {w w' : World} {L L' : List Asrt} {a a' : Asrt} (h : St w0 F L w) (st : Step a a' w w') (he : a.excl = true) (hd : a'.dep) (hs : Sel L a a' L') : St w0 F L' w' := h.did hs he st hd
end
end Go.Hb
