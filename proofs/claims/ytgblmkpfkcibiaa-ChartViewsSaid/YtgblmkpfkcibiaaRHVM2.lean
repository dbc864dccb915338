/-
  Places put in order: the comparison, insertion.
-/
import Derived.Test.YtgblmkpfkcibiaaRHVM1
import Derived.DeepKeys5
import Derived.WideKeyRuns
import Derived.Deep.AppendSrc
import Derived.Shelf.Sort.Plain
import Derived.Ground.Names2Prog
import Derived.Shelf.Slices.CompactI
import Derived.Shelf.Slices.In.SortNone
import Derived.Test.YtgblmkpfkcibiaaProg
import Derived.Sort.OwnSortedInts

set_option linter.unusedSimpArgs false
set_option linter.unusedVariables false
namespace Go.Hb

theorem lst_foldl_comm (a : Array Bool) (i j : Nat) : (a.setIfInBounds i true).setIfInBounds j true = (a.setIfInBounds j true).setIfInBounds i true := by
  by_cases h : i = j
  · subst h; rfl
  · exact Array.setIfInBounds_comm _ _ h
theorem lst_perm {ops : List Oper} {l l' : List Nat} (h : l.Perm l') : lst ops l = lst ops l' := by
  unfold lst
  exact h.foldl_eq' (fun x _ y _ z => lst_foldl_comm z x y) _
theorem lst_getD {ops : List Oper} : ∀ {l : List Nat} {j : Nat} (d : Bool), j < ops.length → (lst ops l).getD j d = l.contains j := by
  intro l
  have gen : ∀ (l : List Nat) (a : Array Bool) (j : Nat) (d : Bool), j < a.size → (l.foldl (fun l i => l.setIfInBounds i true) a).getD j d = (l.contains j || a.getD j d) := by
    intro l
    induction l with
    | nil => intro a j d _; simp
    | cons x r ih =>
      intro a j d hj
      rw [List.foldl_cons, ih _ _ _ (by simpa using hj)]
      by_cases hx : x = j
      · subst hx; simp [hj]
      · have e : (a.setIfInBounds x true).getD j d = a.getD j d := by simp [Array.getElem?_setIfInBounds_ne hx]
        have e2 : (j == x) = false := by simpa using fun h => hx h.symm
        rw [e, List.contains_cons, e2, Bool.false_or]
  intro j d hj
  unfold lst
  rw [gen _ _ _ _ (by simpa using hj)]
  simp [hj]
theorem ready_more {ops : List Oper} {l : List Nat} {j : Nat} (h : j ∈ Region.ready .any ops.toArray (lst ops l)) : ∀ (l' : List Nat), (∀ x ∈ l', j ≠ x) → j ∈ Region.ready .any ops.toArray (lst ops (l ++ l')) := by
  intro l'
  induction l' generalizing l with
  | nil => intro _; simpa using h
  | cons x r ih =>
    intro hx
    have := ready_mono (i := x) h (hx x List.mem_cons_self)
    rw [← lst_snoc] at this
    have h2 := ih this (fun y hy => hx y (List.mem_cons_of_mem _ hy))
    simpa using h2
theorem St.pushL {w0 w w' : World} {F : Nat → Prop} {L A : List Asrt} (h : St w0 F L w) (hA : St w NoF A w') (he : ∀ x ∈ A, x.excl = true) : St w0 F (A ++ L) w' := by
  have h' := h.grew hA.toKeep
  have hnew : ∀ a ∈ A, ∀ k, a.foot k → w.heap.size ≤ k := fun a ha k hk => Nat.le_of_not_lt fun hlt => hA.mine a ha (he a ha) k hk hlt
  refine ⟨h'.os, h'.tape, h'.output, h'.size, h'.keep, ?_, ?_, ?_, ?_, ?_⟩
  · intro a ha; rcases List.mem_append.1 ha with ha | ha
    · exact hA.holds a ha
    · exact h'.holds a ha
  · intro a ha; rcases List.mem_append.1 ha with ha | ha
    · exact hA.live a ha
    · exact h'.live a ha
  · intro a ha hx k hk hlt; rcases List.mem_append.1 ha with ha | ha
    · have := hnew a ha k hk; have := h.size; omega
    · exact h'.mine a ha hx k hk hlt
  · refine List.pairwise_append.2 ⟨hA.dis, h'.dis, fun a ha b hb _ k hk hk2 => ?_⟩
    have := hnew a ha k hk; have := h.live b hb k hk2; omega
  · intro a ha; rcases List.mem_append.1 ha with ha | ha
    · exact hA.dep a ha
    · exact h'.dep a ha

structure PI (P : Program) (n : Nat) (ops : List Oper) where
  i : Nat
  d : Nat
  vs : List (Nat × Value)
  C : World → Prop
  val : Nat → Value
  A : Nat → List Asrt
  ok : ∀ (Q : Exit → Act → World → Prop) (h : Frm) (w : World) (a : Act) (K : Act → World → Prop), Has h vs → C w → Fits n a h → (∀ b w' a', St w NoF (A b) w' → Fits n a' (upd h d (val b)) → K a' w') → wpOp P ops.toArray Q i K a w
  ex : ∀ b, ∀ x ∈ A b, x.excl = true

section
variable {P : Program} {n : Nat} {ops : List Oper} {Q : Post} {f : Frm} {C S : World → Prop}

def sF : List (PI P n ops × Option Nat) → Frm → Frm
  | [], f => f
  | (p, some b) :: r, f => upd (sF r f) p.d (p.val b)
  | (_, none) :: r, f => sF r f
def sL : List (PI P n ops × Option Nat) → List Asrt
  | [] => []
  | (p, some b) :: r => p.A b ++ sL r
  | (_, none) :: r => sL r
def sD : List (PI P n ops × Option Nat) → List Nat
  | [] => []
  | (p, some _) :: r => p.i :: sD r
  | (_, none) :: r => sD r
def nD : List (PI P n ops × Option Nat) → List Nat
  | [] => []
  | (_, some _) :: r => nD r
  | (p, none) :: r => p.d :: nD r
def nI : List (PI P n ops × Option Nat) → List Nat
  | [] => []
  | (_, some _) :: r => nI r
  | (p, none) :: r => p.i :: nI r

variable {σ σ1 σ2 : List (PI P n ops × Option Nat)} {p : PI P n ops} {b : Nat}
theorem sL_set : (sL (σ1 ++ (p, some b) :: σ2)).Perm (p.A b ++ sL (σ1 ++ (p, none) :: σ2)) := by
  induction σ1 with
  | nil => exact List.Perm.refl _
  | cons x r ih =>
    obtain ⟨q, o⟩ := x
    cases o with
    | none => exact ih
    | some c =>
      show (q.A c ++ sL (r ++ (p, some b) :: σ2)).Perm (p.A b ++ (q.A c ++ sL (r ++ (p, none) :: σ2)))
      refine (ih.append_left _).trans ?_
      rw [← List.append_assoc, ← List.append_assoc]
      exact List.perm_append_comm.append_right _
theorem sD_set : (sD (σ1 ++ (p, some b) :: σ2)).Perm (p.i :: sD (σ1 ++ (p, none) :: σ2)) := by
  induction σ1 with
  | nil => exact List.Perm.refl _
  | cons x r ih =>
    obtain ⟨q, o⟩ := x
    cases o with
    | none => exact ih
    | some c => exact (ih.cons q.i).trans (List.Perm.swap _ _ _)
theorem sDnI : ∀ (σ : List (PI P n ops × Option Nat)), (sD σ ++ nI σ).Perm ((σ.map Prod.fst).map PI.i)
  | [] => List.Perm.refl _
  | (p, some b) :: r => (sDnI r).cons p.i
  | (p, none) :: r => by
    show (sD r ++ p.i :: nI r).Perm (p.i :: (r.map Prod.fst).map PI.i)
    exact List.perm_middle.trans ((sDnI r).cons p.i)
theorem sF_off : ∀ {σ : List (PI P n ops × Option Nat)} {t : Nat}, t ∉ (σ.map Prod.fst).map PI.d → sF σ f t = f t
  | [], t, _ => rfl
  | (p, some b) :: r, t, h => by
    simp only [List.map_cons, List.mem_cons, not_or] at h
    show upd _ _ _ t = _
    rw [upd_ne _ _ _ _ h.1, sF_off h.2]
  | (p, none) :: r, t, h => by
    simp only [List.map_cons, List.mem_cons, not_or] at h
    exact sF_off (σ := r) h.2
theorem nD_sub : ∀ {σ : List (PI P n ops × Option Nat)} {t : Nat}, t ∈ nD σ → t ∈ (σ.map Prod.fst).map PI.d
  | (p, some b) :: r, t, h => by simp only [List.map_cons]; exact List.mem_cons_of_mem _ (nD_sub (σ := r) h)
  | (p, none) :: r, t, h => by
    simp only [List.map_cons]
    rcases List.mem_cons.1 h with rfl | h
    · exact List.mem_cons_self
    · exact List.mem_cons_of_mem _ (nD_sub (σ := r) h)
theorem sF_in {f f' : Frm} : ∀ {σ : List (PI P n ops × Option Nat)} {t : Nat}, ((σ.map Prod.fst).map PI.d).Nodup → t ∈ (σ.map Prod.fst).map PI.d → t ∉ nD σ → sF σ f t = sF σ f' t
  | (p, some b) :: r, t, hn, ht, h => by
    simp only [List.map_cons, List.nodup_cons] at hn
    simp only [List.map_cons] at ht
    show upd _ _ _ t = upd _ _ _ t
    by_cases e : t = p.d
    · subst e; rw [upd_same, upd_same]
    · rw [upd_ne _ _ _ _ e, upd_ne _ _ _ _ e]
      rcases List.mem_cons.1 ht with ht | ht
      · exact absurd ht e
      · exact sF_in (σ := r) hn.2 ht h
  | (p, none) :: r, t, hn, ht, h => by
    simp only [List.map_cons, List.nodup_cons] at hn
    simp only [List.map_cons] at ht
    have h : t ∉ p.d :: nD r := h
    simp only [List.mem_cons, not_or] at h
    rcases List.mem_cons.1 ht with ht | ht
    · exact absurd ht h.1
    · exact sF_in (σ := r) hn.2 ht h.2
theorem sF_set {f : Frm} : ∀ {σ1 : List (PI P n ops × Option Nat)}, (((σ1 ++ (p, none) :: σ2).map Prod.fst).map PI.d).Nodup → sF (σ1 ++ (p, some b) :: σ2) f = upd (sF (σ1 ++ (p, none) :: σ2) f) p.d (p.val b)
  | [], _ => rfl
  | (q, none) :: r, hn => by
    simp only [List.cons_append, List.map_cons, List.nodup_cons] at hn
    exact sF_set (σ1 := r) hn.2
  | (q, some c) :: r, hn => by
    simp only [List.cons_append, List.map_cons, List.nodup_cons] at hn
    have hne : q.d ≠ p.d := fun e => hn.1 (by rw [e]; simp)
    show upd (sF (r ++ (p, some b) :: σ2) f) q.d (q.val c) = upd (upd (sF (r ++ (p, none) :: σ2) f) q.d (q.val c)) p.d (p.val b)
    rw [sF_set (σ1 := r) hn.2]
    funext t
    by_cases h1 : t = q.d
    · subst h1; rw [upd_same, upd_ne _ _ _ _ hne, upd_same]
    · rw [upd_ne _ _ _ _ h1]
      by_cases h2 : t = p.d
      · subst h2; rw [upd_same, upd_same]
      · rw [upd_ne _ _ _ _ h2, upd_ne _ _ _ _ h2, upd_ne _ _ _ _ h1]
theorem nD_set : ∀ {σ1 : List (PI P n ops × Option Nat)} {t : Nat}, t ∈ nD (σ1 ++ (p, none) :: σ2) → t = p.d ∨ t ∈ nD (σ1 ++ (p, some b) :: σ2)
  | [], t, h => List.mem_cons.1 h
  | (q, none) :: r, t, h => by
    rcases List.mem_cons.1 h with rfl | h
    · exact .inr List.mem_cons_self
    · rcases nD_set (σ1 := r) h with h | h
      · exact .inl h
      · exact .inr (List.mem_cons_of_mem _ h)
  | (q, some c) :: r, t, h => nD_set (σ1 := r) h
theorem nI_len : ∀ {σ1 : List (PI P n ops × Option Nat)}, (nI (σ1 ++ (p, none) :: σ2)).length = (nI (σ1 ++ (p, some b) :: σ2)).length + 1
  | [] => rfl
  | (q, none) :: r => by show (nI (r ++ _)).length + 1 = _; exact congrArg (· + 1) (nI_len (σ1 := r))
  | (q, some c) :: r => nI_len (σ1 := r)
theorem nI_find : ∀ {σ : List (PI P n ops × Option Nat)} {j : Nat}, j ∈ nI σ → ∃ σ1 p σ2, σ = σ1 ++ (p, none) :: σ2 ∧ p.i = j
  | (p, none) :: r, j, h => by
    rcases List.mem_cons.1 h with rfl | h
    · exact ⟨[], p, r, rfl, rfl⟩
    · obtain ⟨a, q, c, rfl, e⟩ := nI_find (σ := r) h
      exact ⟨(p, none) :: a, q, c, rfl, e⟩
  | (p, some b) :: r, j, h => by
    obtain ⟨a, q, c, rfl, e⟩ := nI_find (σ := r) h
    exact ⟨(p, some b) :: a, q, c, rfl, e⟩

variable {w0 : World} {F : Nat → Prop} {L : List Asrt} {pend : List (PI P n ops)} {done : List Nat}

def PS (P : Program) (n : Nat) (ops : List Oper) (Q : Post) (done : List Nat) (S : World → Prop) (f : Frm) (w0 : World) (F : Nat → Prop) (L : List Asrt) (σ : List (PI P n ops × Option Nat)) : Prop :=
  ∀ w, St w0 F (L ++ sL σ) w → ∀ g, (∀ t, t ∉ nD σ → g t = sF σ f t) → ∀ a, Fits n a g →
    wpAnyH P .any ops.toArray (lift n (only fun f w => Q .normal f w)) S (ops.length - (done.length + (sD σ).length)) (lst ops (done ++ sD σ)) a w
def DP (P : Program) (n : Nat) (ops : List Oper) (Q : Post) (pend : List (PI P n ops)) (done : List Nat) (S : World → Prop) (f : Frm) (w0 : World) (F : Nat → Prop) (L : List Asrt) : Prop :=
  ∀ σ, σ.map Prod.fst = pend → PS P n ops Q done S f w0 F L σ

def PAll (f : Frm) (w0 : World) (F : Nat → Prop) (L : List Asrt) : List (PI P n ops) → Prop
  | [] => True
  | p :: r => Has f p.vs ∧ (∀ A w, St w0 F (L ++ A) w → p.C w) ∧ PAll f w0 F L r
theorem PAll.get : ∀ {pend : List (PI P n ops)}, PAll f w0 F L pend → ∀ p ∈ pend, Has f p.vs ∧ ∀ A w, St w0 F (L ++ A) w → p.C w
  | q :: r, h, p, hp => by
    rcases List.mem_cons.1 hp with rfl | hp
    · exact ⟨h.1, h.2.1⟩
    · exact PAll.get h.2.2 p hp
theorem has_same {f g : Frm} : ∀ {vs : List (Nat × Value)}, Has f vs → (∀ q ∈ vs, g q.1 = f q.1) → Has g vs
  | [], _, _ => trivial
  | q :: r, h, hg => ⟨(hg q List.mem_cons_self).trans h.1, has_same h.2 fun x hx => hg x (List.mem_cons_of_mem _ hx)⟩
def pOk (pend : List (PI P n ops)) : Bool :=
  decide (pend.map PI.i).Nodup && decide (pend.map PI.d).Nodup && pend.all fun p => p.vs.all fun q => !(pend.map PI.d).contains q.1
def pOkL (is ds : List Nat) (vss : List (List Nat)) : Bool := decide is.Nodup && decide ds.Nodup && vss.all fun l => l.all fun q => !ds.contains q
theorem pOk_of {is ds : List Nat} {vss : List (List Nat)} (h1 : pend.map PI.i = is) (h2 : pend.map PI.d = ds) (h3 : (pend.map fun p => p.vs.map Prod.fst) = vss) (h : pOkL is ds vss = true) : pOk pend = true := by
  subst h1 h2 h3
  simpa [pOk, pOkL, List.all_map, Function.comp_def] using h

theorem PS.exec (hp : pOk pend = true) (hall : PAll f w0 F L pend) (hS : ∀ A w, St w0 F (L ++ A) w → S w) (he : σ1.map Prod.fst ++ p :: σ2.map Prod.fst = pend) (hlen : done.length + (sD (σ1 ++ (p, none) :: σ2)).length < ops.length)
    (ih : ∀ b, PS P n ops Q done S f w0 F L (σ1 ++ (p, some b) :: σ2)) {w : World} (hw : St w0 F (L ++ sL (σ1 ++ (p, none) :: σ2)) w) {g : Frm} (hg : ∀ t, t ∉ nD (σ1 ++ (p, none) :: σ2) → g t = sF (σ1 ++ (p, none) :: σ2) f t) {a : Act} (ha : Fits n a g) {fuel : Nat} (hf : ops.length - (done.length + (sD (σ1 ++ (p, none) :: σ2)).length) = fuel + 1) :
    wpOp P ops.toArray (lift n (only fun f w => Q .normal f w)) p.i (fun a' w' => S w' ∧ wpAnyH P .any ops.toArray (lift n (only fun f w => Q .normal f w)) S fuel ((lst ops (done ++ sD (σ1 ++ (p, none) :: σ2))).setIfInBounds p.i true) a' w') a w := by
  have hpm : p ∈ pend := by rw [← he]; simp
  obtain ⟨hh, hC⟩ := hall.get p hpm
  simp only [pOk, Bool.and_eq_true, decide_eq_true_eq, List.all_eq_true] at hp
  obtain ⟨⟨hn1, hn2⟩, hn3⟩ := hp
  have hmap : ∀ o, (σ1 ++ (p, o) :: σ2).map Prod.fst = pend := fun o => by rw [List.map_append, List.map_cons]; exact he
  have hd2 : (((σ1 ++ (p, none) :: σ2).map Prod.fst).map PI.d).Nodup := by rw [hmap]; exact hn2
  refine p.ok _ g w a _ (has_same hh fun q hq => ?_) (hC _ _ hw) ha fun b w' a' hb ha' => ?_
  · have h3 := hn3 p hpm q hq
    have h4 : q.1 ∉ ((σ1 ++ (p, none) :: σ2).map Prod.fst).map PI.d := by rw [hmap]; simpa using h3
    rw [hg _ (fun hx => h4 (nD_sub hx)), sF_off h4]
  · have h1 : St w0 F (L ++ sL (σ1 ++ (p, some b) :: σ2)) w' := by
      refine (hw.pushL hb (p.ex b)).perm ?_
      refine List.Perm.trans ?_ (sL_set.symm.append_left L)
      rw [← List.append_assoc, ← List.append_assoc]
      exact List.perm_append_comm.append_right _
    refine ⟨hS _ _ h1, ?_⟩
    have h2 := ih b w' h1 (upd g p.d (p.val b)) (fun t ht => ?_) a' ha'
    · have e1 : lst ops (done ++ sD (σ1 ++ (p, some b) :: σ2)) = (lst ops (done ++ sD (σ1 ++ (p, none) :: σ2))).setIfInBounds p.i true := by
        rw [← lst_snoc]
        refine lst_perm ?_
        rw [List.append_assoc]
        exact (sD_set.trans (List.perm_append_comm (l₁ := [p.i]))).append_left done
      have e2 : ops.length - (done.length + (sD (σ1 ++ (p, some b) :: σ2)).length) = fuel := by
        have := (sD_set (σ1 := σ1) (σ2 := σ2) (p := p) (b := b)).length_eq
        simp only [List.length_cons] at this
        omega
      rw [e1, e2] at h2
      exact h2
    · rw [sF_set hd2]
      by_cases e : t = p.d
      · subst e; rw [upd_same, upd_same]
      · rw [upd_ne _ _ _ _ e, upd_ne _ _ _ _ e]
        refine hg t fun hx => ?_
        rcases nD_set (b := b) hx with h | h
        · exact e h
        · exact ht h

theorem DP.begin (pend : List (PI P n ops)) (h : DP P n ops Q pend done S f w0 F L) : DW P n ops Q done S f (St w0 F L) := by
  intro w hw a ha
  have key : ∀ (pd : List (PI P n ops)), sL (pd.map fun p => (p, (none : Option Nat))) = [] ∧ sD (pd.map fun p => (p, (none : Option Nat))) = [] ∧ ∀ f, sF (pd.map fun p => (p, (none : Option Nat))) f = f := by
    intro pd
    induction pd with
    | nil => exact ⟨rfl, rfl, fun _ => rfl⟩
    | cons q r ih => exact ⟨ih.1, ih.2.1, ih.2.2⟩
  obtain ⟨k1, k2, k3⟩ := key pend
  have := h (pend.map fun p => (p, none)) (by simp [List.map_map, Function.comp_def]) w (by rw [k1, List.append_nil]; exact hw) f (fun t _ => by rw [k3]) a ha
  rw [k2, List.append_nil] at this
  exact this
theorem DP.nil (h : DW P n ops Q done S f (St w0 F L)) : DP P n ops Q [] done S f w0 F L := by
  intro σ hσ w hw g hg a ha
  have : σ = [] := List.map_eq_nil_iff.1 hσ
  subst this
  have e : g = f := funext fun t => hg t (by simp [nD])
  subst e
  have := h w (by simpa [sL] using hw) a ha
  simpa [sD] using this
theorem DP.more (p : PI P n ops) (h : DP P n ops Q (p :: pend) done S f w0 F L) : DP P n ops Q pend done S f w0 F L := by
  intro σ hσ w hw g hg a ha
  refine h ((p, none) :: σ) (by simp [hσ]) w hw g (fun t ht => hg t fun hx => ht (List.mem_cons_of_mem _ hx)) a ha

theorem sD_le : ∀ (σ : List (PI P n ops × Option Nat)), (sD σ).length + (nI σ).length = σ.length
  | [] => rfl
  | (p, some b) :: r => by have := sD_le r; simp only [sD, nI, List.length_cons]; omega
  | (p, none) :: r => by have := sD_le r; simp only [sD, nI, List.length_cons]; omega

def pnext (P : Program) (n : Nat) (ops : List Oper) (Q : Post) (pend : List (PI P n ops)) (done : List Nat) (S : World → Prop) (w0 : World) (F : Nat → Prop) (g : Frm) (A : List Asrt) : Post :=
  only fun f' w' => ∃ (L' : List Asrt) (f'' : Frm), (∀ t, f' t = bif (pend.map PI.d).contains t then g t else f'' t) ∧ St w0 F (L' ++ A) w' ∧ (∀ A w, St w0 F (L' ++ A) w → S w) ∧ DP P n ops Q pend done S f'' w0 F L'

theorem wpOp_of_LR {R : Frm → World → Prop} {i : Nat} {o : Oper} (hi : ops[i]? = some o) {w : World} {a : Act} (ha : Fits n a f) (hC : C w) (h : LR false P n ops [o] (only R) f C) {K : Act → World → Prop} {Qx : Exit → Act → World → Prop}
    (hK : ∀ a' f' w', Fits n a' f' → R f' w' → K a' w') : wpOp P ops.toArray Qx i K a w := by
  have h1 := h w hC a ha
  have ho : ops.toArray[i]? = some o := by simpa using hi
  unfold wpOp
  simp only [ho]
  simp only [wpList] at h1
  have conv : ∀ a' w', lift n (only R) .normal a' w' → K a' w' := by
    intro a' w' hq
    obtain ⟨f', hf', _, hR⟩ := hq
    exact hK a' f' w' hf' hR
  split
  · rename_i hwn
    rw [if_pos hwn] at h1
    rcases h1 with h1 | ⟨_, a', w', f', hf', he, _⟩
    · refine .inl ?_
      have h2 := Oper.wp_mono conv h1
      unfold Oper.wp at h2 ⊢
      generalize (execOp a.eval o).run P w = r at *
      cases r with
      | ok nx w' =>
        cases nx <;> simp only [Oper.upon] at h2 ⊢
        case value => exact h2
        case skip => exact h2
        case defer => exact h2
        case enter g args =>
          refine Calls.mono h2 fun e w'' he => ?_
          cases e with
          | returned u => exact he
          | panicked c => obtain ⟨_, _, he, _⟩ := he; cases he
          | outgrown => obtain ⟨_, _, _, _, he, _⟩ := he; cases he
        case row => exact h2
      | halt x w' =>
        cases x <;> simp only [Oper.upon] at h2 ⊢
        case panic => obtain ⟨_, _, he, _⟩ := h2; cases he
    · cases he
  · rename_i hwn
    rw [if_neg hwn] at h1
    exact conv _ _ h1

theorem DP.loud (i : Nat) {o : Oper} (hi : ops[i]? = some o)
    (hr : (pOk pend && (Region.ready .any ops.toArray (lst ops done)).contains i && (Region.ready .any ops.toArray (lst ops (done ++ pend.map PI.i))).all (fun j => Nat.beq j i) && !(pend.map PI.i).contains i && Nat.blt (done.length + pend.length) ops.length) = true)
    (hall : PAll f w0 F L pend) (hS : ∀ A w, St w0 F (L ++ A) w → S w)
    (h : ∀ g A LA, LA = L ++ A → LR false P n ops [o] (pnext P n ops Q pend (done ++ [i]) S w0 F g A) (mix (pend.map PI.d) g f) (St w0 F LA)) : DP P n ops Q pend done S f w0 F L := by
  simp only [Bool.and_eq_true] at hr
  obtain ⟨⟨⟨⟨hp, hri⟩, hra⟩, hni⟩, hl⟩ := hr
  have hri : i ∈ Region.ready .any ops.toArray (lst ops done) := by simpa using hri
  have hni : i ∉ pend.map PI.i := by
    intro hx
    have : (pend.map PI.i).contains i = true := List.elem_eq_true_of_mem hx
    rw [this] at hni; cases hni
  have hl := blt_lt hl
  have hp' := hp
  simp only [pOk, Bool.and_eq_true, decide_eq_true_eq, List.all_eq_true] at hp'
  obtain ⟨⟨hn1, hn2⟩, hn3⟩ := hp'
  suffices key : ∀ m σ, (nI σ).length = m → σ.map Prod.fst = pend → PS P n ops Q done S f w0 F L σ from fun σ hσ => key _ σ rfl hσ
  intro m
  induction m with
  | zero | succ m ih =>
    intro σ hm hσ w hw g hg a ha
    have hlen : (sD σ).length + (nI σ).length = pend.length := by rw [sD_le, ← hσ]; simp
    have hdn := sDnI σ
    rw [hσ] at hdn
    obtain ⟨fuel, hfuel⟩ : ∃ fuel, ops.length - (done.length + (sD σ).length) = fuel + 1 := ⟨ops.length - (done.length + (sD σ).length) - 1, by omega⟩
    rw [hfuel]
    have hsD : ∀ x ∈ sD σ, x ∈ pend.map PI.i := fun x hx => hdn.mem_iff.1 (List.mem_append_left _ hx)
    have hir : i ∈ Region.ready .any ops.toArray (lst ops (done ++ sD σ)) := ready_more hri _ fun x hx e => hni (e ▸ hsD x hx)
    refine ⟨fun h0 => (by rw [h0] at hir; cases hir), fun j hj => ?_⟩
    by_cases hjp : j ∈ nI σ
    · first
      | (rw [List.eq_nil_of_length_eq_zero hm] at hjp; cases hjp; done)
      | (obtain ⟨σ1, p, σ2, rfl, rfl⟩ := nI_find hjp
         refine PS.exec hp hall hS (by rw [← hσ, List.map_append, List.map_cons]) (by omega) (fun b => ih _ ?_ ?_) hw hg ha hfuel
         · have := nI_len (σ1 := σ1) (σ2 := σ2) (p := p) (b := b); omega
         · rw [← hσ]; simp)
    · have hjr : j ∈ Region.ready .any ops.toArray (lst ops (done ++ pend.map PI.i)) := by
        have h1 := ready_more hj (nI σ) (fun x hx e => hjp (e ▸ hx))
        rwa [lst_perm (l' := done ++ pend.map PI.i) (by rw [List.append_assoc]; exact hdn.append_left done)] at h1
      have hji : j = i := Nat.eq_of_beq_eq_true (List.all_eq_true.1 hra j hjr)
      subst hji
      have hmix : mix (pend.map PI.d) g f = g := by
        funext t
        simp only [mix]
        cases hc : (pend.map PI.d).contains t with
        | true => rfl
        | false =>
          have ht : t ∉ (σ.map Prod.fst).map PI.d := by
            rw [hσ]; intro hx; have hx' : (pend.map PI.d).contains t = true := List.elem_eq_true_of_mem hx; rw [hx'] at hc; cases hc
          rw [cond_false, hg t (fun hx => ht (nD_sub hx)), sF_off ht]
      have hLR := h g (sL σ) _ rfl
      rw [hmix] at hLR
      refine wpOp_of_LR hi ha hw hLR fun a' f' w' hf' ⟨L', f'', h1, h2, h3, h4⟩ => ⟨h3 _ _ h2, ?_⟩
      have h5 := h4 σ hσ w' h2 f' (fun t ht => ?_) a' hf'
      · have e1 : lst ops (done ++ [j] ++ sD σ) = (lst ops (done ++ sD σ)).setIfInBounds j true := by
          rw [← lst_snoc]
          refine lst_perm ?_
          rw [List.append_assoc, List.append_assoc]
          exact List.perm_append_comm.append_left done
        have e2 : ops.length - ((done ++ [j]).length + (sD σ).length) = fuel := by simp only [List.length_append, List.length_cons, List.length_nil]; omega
        rw [e1, e2] at h5
        exact h5
      · rw [h1 t]
        cases hc : (pend.map PI.d).contains t with
        | true =>
          have ht2 : t ∈ (σ.map Prod.fst).map PI.d := by rw [hσ]; simpa using hc
          rw [cond_true, hg t ht]
          exact sF_in (by rw [hσ]; exact hn2) ht2 ht
        | false =>
          have ht2 : t ∉ (σ.map Prod.fst).map PI.d := by
            rw [hσ]; intro hx; have hx' : (pend.map PI.d).contains t = true := List.elem_eq_true_of_mem hx; rw [hx'] at hc; cases hc
          rw [cond_false, sF_off ht2]

theorem DP.settle {r : List (PI P n ops)}
    (hr : (pOk (p :: r) && (Region.ready .any ops.toArray (lst ops done)).contains p.i && (Region.ready .any ops.toArray (lst ops (done ++ r.map PI.i))).all (fun j => Nat.beq j p.i) && Nat.blt (done.length + r.length) ops.length) = true)
    (hall : PAll f w0 F L (p :: r)) (hS : ∀ A w, St w0 F (L ++ A) w → S w)
    (h : ∀ b, DP P n ops Q r (done ++ [p.i]) S (upd f p.d (p.val b)) w0 F (p.A b ++ L)) : DP P n ops Q (p :: r) done S f w0 F L := by
  simp only [Bool.and_eq_true] at hr
  obtain ⟨⟨⟨hp, hri⟩, hra⟩, hl⟩ := hr
  have hri : p.i ∈ Region.ready .any ops.toArray (lst ops done) := by simpa using hri
  have hl := blt_lt hl
  have hp' := hp
  simp only [pOk, Bool.and_eq_true, decide_eq_true_eq, List.all_eq_true] at hp'
  obtain ⟨⟨hn1, hn2⟩, hn3⟩ := hp'
  have hn1' := List.nodup_cons.1 (show (p.i :: r.map PI.i).Nodup from hn1)
  have hn2' := List.nodup_cons.1 (show (p.d :: r.map PI.d).Nodup from hn2)
  suffices key : ∀ m σ, (nI σ).length = m → σ.map Prod.fst = p :: r → PS P n ops Q done S f w0 F L σ from fun σ hσ => key _ σ rfl hσ
  intro m
  induction m with
  | zero | succ m ih =>
    intro σ hm hσ w hw g hg a ha
    match σ, hσ, hm, hw, hg with
    | (q, some b) :: τ, hσ, hm, hw, hg =>
      simp only [List.map_cons, List.cons.injEq] at hσ
      obtain ⟨rfl, hτ⟩ := hσ
      have h5 := h b τ hτ w (hw.perm (by
        show (L ++ (q.A b ++ sL τ)).Perm (q.A b ++ L ++ sL τ)
        rw [← List.append_assoc]
        exact List.perm_append_comm.append_right _)) g (fun t ht => by
          rw [hg t ht]
          show upd (sF τ f) q.d (q.val b) t = _
          by_cases e : t = q.d
          · subst e
            rw [upd_same, sF_off (by rw [hτ]; exact hn2'.1), upd_same]
          · rw [upd_ne _ _ _ _ e]
            by_cases ht2 : t ∈ (τ.map Prod.fst).map PI.d
            · exact sF_in (by rw [hτ]; exact hn2'.2) ht2 ht
            · rw [sF_off ht2, sF_off ht2, upd_ne _ _ _ _ e]) a ha
      have e1 : lst ops (done ++ [q.i] ++ sD τ) = lst ops (done ++ sD ((q, some b) :: τ)) := by rw [List.append_assoc]; rfl
      have e2 : (done ++ [q.i]).length + (sD τ).length = done.length + (sD ((q, some b) :: τ)).length := by simp [sD]; omega
      rw [e1, e2] at h5
      exact h5
    | (q, none) :: τ, hσ, hm, hw, hg =>
      simp only [List.map_cons, List.cons.injEq] at hσ
      obtain ⟨rfl, hτ⟩ := hσ
      first
      | (simp only [nI, List.length_cons, Nat.add_one_ne_zero] at hm; done)
      | (
      have hlen : (sD τ).length + (nI τ).length = r.length := by rw [sD_le, ← hτ]; simp
      have hdn := sDnI τ
      rw [hτ] at hdn
      have hsd : sD ((q, none) :: τ) = sD τ := rfl
      obtain ⟨fuel, hfuel⟩ : ∃ fuel, ops.length - (done.length + (sD ((q, none) :: τ)).length) = fuel + 1 := ⟨ops.length - (done.length + (sD τ).length) - 1, by rw [hsd]; omega⟩
      rw [hfuel]
      have hsD : ∀ x ∈ sD τ, x ∈ r.map PI.i := fun x hx => hdn.mem_iff.1 (List.mem_append_left _ hx)
      have hir : q.i ∈ Region.ready .any ops.toArray (lst ops (done ++ sD τ)) := ready_more hri _ fun x hx e => hn1'.1 (e ▸ hsD x hx)
      rw [hsd]
      refine ⟨fun h0 => (by rw [h0] at hir; cases hir), fun j hj => ?_⟩
      have hjn : j ∈ nI ((q, none) :: τ) := by
        by_cases hjp : j ∈ nI τ
        · exact List.mem_cons_of_mem _ hjp
        · have hjr : j ∈ Region.ready .any ops.toArray (lst ops (done ++ r.map PI.i)) := by
            have h1 := ready_more hj (nI τ) (fun x hx e => hjp (e ▸ hx))
            rwa [lst_perm (l' := done ++ r.map PI.i) (by rw [List.append_assoc]; exact hdn.append_left done)] at h1
          have hji : j = q.i := Nat.eq_of_beq_eq_true (List.all_eq_true.1 hra j hjr)
          rw [hji]; exact List.mem_cons_self
      obtain ⟨σ1, p', σ2, e, rfl⟩ := nI_find hjn
      have hm' : σ1.map Prod.fst ++ p' :: σ2.map Prod.fst = q :: r := by
        have := congrArg (List.map Prod.fst) e
        rw [List.map_append, List.map_cons, List.map_cons, hτ] at this
        exact this.symm
      rw [← hsd]
      rw [e] at hw hg hm hfuel ⊢
      refine PS.exec hp hall hS hm' (by rw [← e, hsd]; omega) (fun b => ih _ ?_ ?_) hw hg ha hfuel
      · have := nI_len (σ1 := σ1) (σ2 := σ2) (p := p') (b := b); omega
      · rw [← hm']; simp)
variable {is ds : List Nat} {vss : List (List Nat)}
theorem DP.go (i : Nat) (is ds : List Nat) (vss : List (List Nat)) {o : Oper} (hi : ops[i]? = some o) (h1 : pend.map PI.i = is) (h2 : pend.map PI.d = ds) (h3 : (pend.map fun p => p.vs.map Prod.fst) = vss)
    (hr : (pOkL is ds vss && (Region.ready .any ops.toArray (lst ops done)).contains i && (Region.ready .any ops.toArray (lst ops (done ++ is))).all (fun j => Nat.beq j i) && !is.contains i && Nat.blt (done.length + is.length) ops.length) = true)
    (hall : PAll f w0 F L pend) (hS : ∀ A w, St w0 F (L ++ A) w → S w)
    (h : ∀ g A LA, LA = L ++ A → LR false P n ops [o] (pnext P n ops Q pend (done ++ [i]) S w0 F g A) (mix ds g f) (St w0 F LA)) : DP P n ops Q pend done S f w0 F L := by
  simp only [Bool.and_eq_true] at hr
  have hp := pOk_of h1 h2 h3 hr.1.1.1.1
  have hl : is.length = pend.length := by rw [← h1]; simp
  subst h1 h2
  exact DP.loud i hi (by simp only [Bool.and_eq_true]; exact ⟨⟨⟨⟨hp, hr.1.1.1.2⟩, hr.1.1.2⟩, hr.1.2⟩, by rw [← hl]; exact hr.2⟩) hall hS h
theorem DP.take (i d : Nat) (val : Nat → Value) (A : Nat → List Asrt) (is ds : List Nat) (vss : List (List Nat)) {r : List (PI P n ops)} (hp1 : p.i = i) (hpd : p.d = d) (hpv : p.val = val) (hpA : p.A = A) (h1 : r.map PI.i = is) (h2 : (p :: r).map PI.d = ds) (h3 : ((p :: r).map fun p => p.vs.map Prod.fst) = vss)
    (hr : (pOkL (i :: is) ds vss && (Region.ready .any ops.toArray (lst ops done)).contains i && (Region.ready .any ops.toArray (lst ops (done ++ is))).all (fun j => Nat.beq j i) && Nat.blt (done.length + is.length) ops.length) = true)
    (hall : PAll f w0 F L (p :: r)) (hS : ∀ A w, St w0 F (L ++ A) w → S w)
    (h : ∀ b, DP P n ops Q r (done ++ [i]) S (upd f d (val b)) w0 F (A b ++ L)) : DP P n ops Q (p :: r) done S f w0 F L := by
  simp only [Bool.and_eq_true] at hr
  have hp := pOk_of (pend := p :: r) (is := i :: is) (by rw [List.map_cons, h1, hp1]) h2 h3 hr.1.1.1
  have hl : is.length = r.length := by rw [← h1]; simp
  subst h1 hp1 hpd hpv hpA
  exact DP.settle (by simp only [Bool.and_eq_true]; exact ⟨⟨⟨hp, hr.1.1.2⟩, hr.1.2⟩, by rw [← hl]; exact hr.2⟩) hall hS h

theorem lst_sub {l e : List Nat} {j : Nat} (hj : j < ops.length) (h : (lst ops l).getD j true = true) : (lst ops (l ++ e)).getD j true = true := by
  rw [lst_getD _ hj] at h ⊢
  simp only [List.contains_iff_mem] at h ⊢
  exact List.mem_append_left _ h
theorem free_more {l e : List Nat} {i : Nat} (h : Region.free .any ops.toArray (lst ops l) i = true) : Region.free .any ops.toArray (lst ops (l ++ e)) i = true := by
  unfold Region.free at h ⊢
  split
  · rename_i h0; rw [h0] at h; exact h
  · rename_i oi h0
    rw [h0] at h
    simp only [List.all_eq_true, List.mem_range] at h ⊢
    intro j hj
    have hj' : j < ops.length := by simpa using hj
    have := h j hj
    simp only [Bool.or_eq_true] at this ⊢
    rcases this with (h1 | h1) | h1
    · exact .inl (.inl h1)
    · exact .inl (.inr (lst_sub hj' h1))
    · exact .inr h1
theorem headB_more : ∀ {H l e : List Nat}, headB ops.toArray (lst ops l) H = true → (∀ x ∈ e, x ∉ H) → headB ops.toArray (lst ops (l ++ e)) H = true
  | [], _, _, _, _ => rfl
  | i :: r, l, e, h, he => by
    simp only [headB, Bool.and_eq_true] at h ⊢
    obtain ⟨⟨h1, h2⟩, h3⟩ := h
    refine ⟨⟨?_, free_more h2⟩, ?_⟩
    · have : i ∈ Region.ready .any ops.toArray (lst ops l) := by simpa using h1
      have := ready_more this e (fun x hx e2 => he x hx (e2 ▸ List.mem_cons_self))
      simpa using this
    · rw [← lst_snoc] at h3 ⊢
      have := headB_more (H := r) (e := e) h3 (fun x hx hr => he x hx (List.mem_cons_of_mem _ hr))
      rw [lst_perm (l' := l ++ e ++ [i])] at this
      · exact this
      · rw [List.append_assoc, List.append_assoc]
        exact List.perm_append_comm.append_left l
theorem quiet_go {K : Frm → Prop} {w : World} {R : Frm → World → Prop} : ∀ (H l : List Nat) (fr : Frm) (a : Act) (fuel : Nat), headB ops.toArray (lst ops l) H = true → Region.noSelect ops.toArray = true → QL P n ops S K H fr → Fits n a fr → S w →
    (∀ fr' a', K fr' → Fits n a' fr' → wpAnyH P .any ops.toArray (lift n (only R)) S fuel (lst ops (l ++ H)) a' w) → wpAnyH P .any ops.toArray (lift n (only R)) S (fuel + H.length) (lst ops l) a w
  | [], l, fr, a, fuel, _, _, hq, ha, _, hk => by
    have := hk fr a hq ha
    simpa using this
  | i :: r, l, fr, a, fuel, hB, hs, hq, ha, hS, hk => by
    simp only [headB, Bool.and_eq_true] at hB
    obtain ⟨⟨h1, h2⟩, h3⟩ := hB
    obtain ⟨o, v, ho, hd, hy, hq'⟩ := hq
    have ih := quiet_go (R := R) r (l ++ [i]) _ _ fuel (by rw [lst_snoc]; exact h3) hs hq' (ha.putO o.dst v hd) hS (fun fr' a' hK hf => by
      have := hk fr' a' hK hf
      rw [List.append_assoc]; exact this)
    rw [lst_snoc] at ih
    have e : fuel + (i :: r).length = (fuel + r.length) + 1 := by simp only [List.length_cons]; omega
    rw [e]
    exact wpAnyH_take (by simpa using ho) hs h2 h1 (fun c a w hq => by obtain ⟨_, _, he, _⟩ := hq; cases he) (hy a ha) hS ih
def pq (P : Program) (n : Nat) (ops : List Oper) (Q : Post) (pend : List (PI P n ops)) (done : List Nat) (S : World → Prop) (w0 : World) (F : Nat → Prop) (L : List Asrt) (ds : List Nat) (g : Frm) : Frm → Prop :=
  fun f' => ∃ f'', (∀ t, f' t = bif ds.contains t then g t else f'' t) ∧ DP P n ops Q pend done S f'' w0 F L
theorem DP.quiet (H is ds : List Nat) (h1 : pend.map PI.i = is) (h2 : pend.map PI.d = ds)
    (hr : (decide ds.Nodup && headB ops.toArray (lst ops done) H && Region.noSelect ops.toArray && Nat.ble (done.length + H.length + is.length) ops.length && is.all (fun i => !H.contains i)) = true)
    (hS : ∀ A w, St w0 F (L ++ A) w → S w) (h : ∀ g, QL P n ops S (pq P n ops Q pend (done ++ H) S w0 F L ds g) H (mix ds g f)) : DP P n ops Q pend done S f w0 F L := by
  simp only [Bool.and_eq_true, decide_eq_true_eq] at hr
  obtain ⟨⟨⟨⟨hn2, hB⟩, hs⟩, hl⟩, hd⟩ := hr
  have hl := Nat.le_of_ble_eq_true hl
  have hlen : is.length = pend.length := by rw [← h1]; simp
  subst h1 h2
  intro σ hσ w hw g hg a ha
  have hmix : mix (pend.map PI.d) g f = g := by
    funext t
    simp only [mix]
    cases hc : (pend.map PI.d).contains t with
    | true => rfl
    | false =>
      have ht : t ∉ (σ.map Prod.fst).map PI.d := by
        rw [hσ]; intro hx; have hx' : (pend.map PI.d).contains t = true := List.elem_eq_true_of_mem hx; rw [hx'] at hc; cases hc
      rw [cond_false, hg t (fun hx => ht (nD_sub hx)), sF_off ht]
  have hq := h g
  rw [hmix] at hq
  have hdn := sDnI σ
  rw [hσ] at hdn
  have hsD : ∀ x ∈ sD σ, x ∈ pend.map PI.i := fun x hx => hdn.mem_iff.1 (List.mem_append_left _ hx)
  have hle : (sD σ).length ≤ pend.length := by have := sD_le σ; rw [← hσ, List.length_map]; omega
  have e : ops.length - (done.length + (sD σ).length) = (ops.length - ((done ++ H).length + (sD σ).length)) + H.length := by simp only [List.length_append]; omega
  rw [e]
  refine quiet_go H (done ++ sD σ) g a _ (headB_more hB fun x hx hxH => ?_) hs hq ha (hS _ _ hw) fun fr' a' hK hf => ?_
  · have := List.all_eq_true.1 hd x (hsD x hx)
    have h2 : H.contains x = true := List.elem_eq_true_of_mem hxH
    rw [h2] at this; cases this
  · obtain ⟨f'', h5, h6⟩ := hK
    have := h6 σ hσ w hw fr' (fun t ht => ?_) a' hf
    · rw [lst_perm (l' := done ++ sD σ ++ H)] at this
      · exact this
      · rw [List.append_assoc, List.append_assoc]
        exact List.perm_append_comm.append_left done
    · rw [h5 t]
      cases hc : (pend.map PI.d).contains t with
      | true =>
        have ht2 : t ∈ (σ.map Prod.fst).map PI.d := by rw [hσ]; simpa using hc
        rw [cond_true, hg t ht]
        exact sF_in (by rw [hσ]; exact hn2) ht2 ht
      | false =>
        have ht2 : t ∉ (σ.map Prod.fst).map PI.d := by
          rw [hσ]; intro hx; have hx' : (pend.map PI.d).contains t = true := List.elem_eq_true_of_mem hx; rw [hx'] at hc; cases hc
        rw [cond_false, sF_off ht2]

inductive MixR (ds : List Nat) (g : Frm) : Frm → Frm → Prop
  | base (f : Frm) : MixR ds g (mix ds g f) f
  | upd {f' f0 : Frm} {d : Nat} {v : Value} (h : MixR ds g f' f0) (hd : ds.contains d = false) : MixR ds g (Hb.upd f' d v) (Hb.upd f0 d v)
theorem MixR.eq {g f' f0 : Frm} (h : MixR ds g f' f0) : ∀ t, f' t = bif ds.contains t then g t else f0 t := by
  induction h with
  | base f => exact fun t => rfl
  | @upd f' f0 d v h hd ih =>
    intro t
    by_cases e : t = d
    · subst e; rw [hd, cond_false, upd_same, upd_same]
    · rw [upd_ne _ _ _ _ e, ih t, upd_ne _ _ _ _ e]
inductive Tl (A : List Asrt) : List Asrt → List Asrt → Prop
  | nil : Tl A A []
  | cons {x : Asrt} {l l' : List Asrt} (h : Tl A l l') : Tl A (x :: l) (x :: l')
theorem Tl.eq {A l l' : List Asrt} (h : Tl A l l') : l = l' ++ A := by
  induction h with
  | nil => rfl
  | cons h ih => rw [ih]; rfl
theorem At.pdone {g f' f0 : Frm} {A LA L' : List Asrt} (h2 : pend.map PI.d = ds) (hm : MixR ds g f' f0) (hL : Tl A LA L') (hS : ∀ A w, St w0 F (L' ++ A) w → S w)
    (h : DP P n ops Q pend done S f0 w0 F L') : At (pnext P n ops Q pend done S w0 F g A) .normal f' (St w0 F LA) := by
  subst h2
  intro w hw
  exact ⟨rfl, L', _, hm.eq, by rw [← hL.eq]; exact hw, hS, h⟩

theorem upd_updL {h : Frm} {vs : List (Nat × Value)} (hh : Has h vs) : updL h vs = h := updL_has hh fun _ _ => rfl
def PI.lr (i d : Nat) (vs : List (Nat × Value)) (val : Nat → Value) (A : Nat → List Asrt) {o : Oper} (hi : ops[i]? = some o) (ex : ∀ b, ∀ x ∈ A b, x.excl = true)
    (h : ∀ h w, LR false P n ops [o] (only fun f' w' => ∃ b, f' = upd (updL h vs) d (val b) ∧ St w NoF (A b) w') (updL h vs) (St w NoF [])) : PI P n ops where
  i := i
  d := d
  vs := vs
  C := fun _ => True
  val := val
  A := A
  ok := fun Q fr w a K hh _ ha hk => by
    have := h fr w
    rw [upd_updL hh] at this
    exact wpOp_of_LR hi ha (St.refl w NoF) this fun a' f' w' hf' ⟨b, e, hs⟩ => hk b w' a' hs (by rw [← e]; exact hf')
  ex := ex
theorem At.made {d b : Nat} {h : Frm} {val : Nat → Value} {A : Nat → List Asrt} {w : World} {f' : Frm} (hf : f' = upd h d (val b)) : At (only fun f' w' => ∃ b, f' = upd h d (val b) ∧ St w NoF (A b) w') .normal f' (St w NoF (A b)) := fun _ hw => ⟨rfl, b, hf, hw⟩
def PI.call (i d : Nat) (vs : List (Nat × Value)) (C : World → Prop) (v : Value) {g : FuncId} {xs : List Operand} {args : List Value} {ts : Array TypeId} {T : TypeId} {pp : String} {af : Array Edge} [own : Own P g]
    (hi : ops[i]? = some ⟨some d, .call ⟨.value (.func g), xs.toArray, ts⟩, T, pp, af, none⟩) (hd : Nat.blt d n = true) (hx : ∀ h, xs.map (updL h vs).ev = args)
    (h : ∀ w, C w → CallsTo P g args w fun u w' => u = v ∧ Grew w w') : PI P n ops where
  i := i
  d := d
  vs := vs
  C := C
  val := fun _ => v
  A := fun _ => []
  ok := fun Q fr w a K hh hC ha hk => by
    refine wpOp_of_LR (C := fun u => u = w) hi ha rfl (R := fun f' w' => f' = upd fr d v ∧ Grew w w') (LR.call hd fun w1 e => ?_) fun a' f' w' hf' ⟨e, hs⟩ => hk 0 w' a' hs (by rw [← e]; exact hf')
    subst e
    have hx' := hx fr
    rw [upd_updL hh] at hx'
    rw [hx']
    refine (h w1 hC).mono ?_
    rintro u w' ⟨rfl, hg⟩
    refine LW.sub (D := fun u => u = w') ?_ (fun _ e => e)
    exact LR.nil (m := false) fun w2 e => by subst e; exact ⟨rfl, rfl, hg⟩
  ex := fun _ x hx => by cases hx
theorem St.nilsl {w : World} {L : List Asrt} (E sz : Nat) (h : St w0 F L w) : St w0 F (osl (.slice none 0 0) E sz 0 [] :: L) w := h.newSl ⟨Grew.refl _, World.ownsRow_nil _ _ _ _⟩
end
end Go.Hb

namespace Go.Proofs.Ytgblmkpfkcibiaa
open Go.Hb
attribute [local irreducible] LR CW At Ev thn blk finK noG again CallsTo DW QL dnext TW DP
set_option maxRecDepth 100000

structure Cst where
  k : Nat
  a : Option Addr
  c : Nat
abbrev ilK (a : Option Addr) (c : Nat) (l : List Int) : Asrt := osl (.slice a l.length c) 3 1 l.length (iv l)
theorem q61 (c : Int) (w : World) (hc : -9223372036854775808 ≤ c ∧ c ≤ 9223372036854775807) : CallsTo Try.prog 87 [.int .i64 c] w fun v w' => v = .int .i64 (if crewOk c then 0 else 2) ∧ Grew w w' := by
  refine go_in (n := 6) (St.refl _ NoF) Try.func87 rfl rfl ?_
  have hk := andNot_ok hc.1 hc.2
  repeat'(first|refine kv' ?_|apply jJ|refine jE' ?_|refine jp' ?_|(apply jc;kernel_rfl)|refine kg' ?_|refine kG' ?_|refine kB' fun _=>?_|refine kA' fun _=>?_|refine kK' fun _=>?_|refine kU' ?_|((first|refine kR' ?_ ?_|refine kQ' ?_ ?_);all_goals(intro hc;try simp only[hcs]at hc;try(exfalso;first|contradiction|omega))))
  all_goals (
    (apply ret1; (· exact rfl); intro w' hS)
    refine ⟨congrArg (Value.int .i64) ?_, hS.toKeep⟩
    first
      | (rw [if_pos (hk.1 (by assumption))])
      | (rw [if_neg (fun h => absurd (hk.2 h) (by assumption))]))
theorem q23 (c n : Int) (w : World) : CallsTo Try.prog 52 [.int .i64 c, .int .i64 n] w fun v w' => v = .bool (hasC c n) ∧ Grew w w' := by
  refine go_in (n := 18) (St.refl _ NoF) Try.func52 rfl rfl ?_
  by_cases h : 0 < n ∧ n ≤ 8
  · obtain ⟨k, rfl⟩ : ∃ k : Nat, n = (k : Int) := ⟨n.toNat, by omega⟩
    have hk := shr_and c k (by omega)
    have hm : min (k : Int).toNat IntKind.i64.bits = k := by show min _ 64 = _; omega
    rw [← hm] at hk
    repeat'(first|refine kv' ?_|apply jJ|refine jE' ?_|refine jp' ?_|(apply jc;kernel_rfl)|refine kg' ?_|refine kG' ?_|refine kB' fun _=>?_|refine kA' fun _=>?_|refine kK' fun _=>?_|refine kU' ?_|((first|refine kR' ?_ ?_|refine kQ' ?_ ?_);all_goals(intro hc;try simp only[hcs]at hc;try(exfalso;first|contradiction|omega))))
    all_goals (
      (apply ret1; (· exact rfl); intro w' hS)
      refine ⟨congrArg Value.bool ?_, hS.toKeep⟩
      unfold hasC
      rw [decide_eq_true h, Bool.true_and]
      rw [hm] at hk ⊢
      rw [Int.toNat_natCast]
      cases hx : tb c k with
      | true => rw [decide_eq_false (fun e => by rw [hk.1 e] at hx; cases hx)]; rfl
      | false => rw [decide_eq_true (hk.2 hx)]; rfl)
  · repeat'(first|refine kv' ?_|apply jJ|refine jE' ?_|refine jp' ?_|(apply jc;kernel_rfl)|refine kg' ?_|refine kG' ?_|refine kB' fun _=>?_|refine kA' fun _=>?_|refine kK' fun _=>?_|refine kU' ?_|((first|refine kR' ?_ ?_|refine kQ' ?_ ?_);all_goals(intro hc;try simp only[hcs]at hc;try(exfalso;first|contradiction|omega))))
    all_goals (
      (apply ret1; (· exact rfl); intro w' hS)
      refine ⟨congrArg Value.bool ?_, hS.toKeep⟩
      unfold hasC
      rw [decide_eq_false h]
      rfl)
theorem q85 (k : Nat) (w : World) (hk : k ≤ 8) : CallsTo Try.prog 81 [.int .i64 (k : Int)] w fun v w' => v = .int .i64 (2 ^ k) ∧ Grew w w' := by
  refine go_in (n := 13) (St.refl _ NoF) Try.func81 rfl rfl ?_
  repeat'(first|refine kv' ?_|apply jJ|refine jE' ?_|refine jp' ?_|(apply jc;kernel_rfl)|refine kg' ?_|refine kG' ?_|refine kB' fun _=>?_|refine kA' fun _=>?_|refine kK' fun _=>?_|refine kU' ?_|((first|refine kR' ?_ ?_|refine kQ' ?_ ?_);all_goals(intro hc;try simp only[hcs]at hc;try(exfalso;first|contradiction|omega))))
  apply CW.loop [3, 4, 5, 6, 7, 8, 9, 10, 11] (fun i : Nat => i ≤ k) (fun i : Nat => [(3, Value.int .i64 (2 ^ i)), (4, Value.int .i64 (i : Int))]) (fun _ => St w NoF []) (fun i => k - i)
  · exact fun w' hw' => ⟨0, by omega, ⟨rfl, rfl, trivial⟩, hw'⟩
  intro i g hi
  have hp : ∀ j : Nat, j ≤ 8 → (2 : Int) ^ j ≤ 256 := fun j hj => by
    have := low9 hj
    rcases this with rfl | rfl | rfl | rfl | rfl | rfl | rfl | rfl | rfl <;> decide
  have hp0 : (0 : Int) < 2 ^ i := Int.pow_pos (by decide)
  have hpi := hp i (by omega)
  by_cases hlt : i < k
  · repeat'(first|refine kv' ?_|apply jJ|refine jE' ?_|refine jp' ?_|(apply jc;kernel_rfl)|refine kg' ?_|refine kG' ?_|refine kB' fun _=>?_|refine kA' fun _=>?_|refine kK' fun _=>?_|refine kU' ?_|(apply mulX;(iterate 2 exact rfl);(iterate 2(first|omega|(dsimp only;omega)));exact rfl)|(apply addX;(iterate 2 exact rfl);(iterate 2(first|omega|(dsimp only;omega)));exact rfl)|((first|refine kR' ?_ ?_|refine kQ' ?_ ?_);all_goals(intro hc;try simp only[hcs]at hc;try(exfalso;first|contradiction|omega))))
    refine At.again (i + 1) (by omega) ?_ ⟨?_, rfl, trivial⟩ (fun w' hw' => hw') (by omega)
    · (repeat (first | exact Out.refl _ _ | exact Out.mix | (apply Out.upd; (· exact rfl)) | (apply Out.updL; (· exact rfl)) | (apply Out.mixs; (· exact rfl))))
    · exact congrArg (Value.int .i64) (Int.pow_succ 2 i).symm
  · have hie : i = k := by omega
    subst hie
    repeat'(first|refine kv' ?_|apply jJ|refine jE' ?_|refine jp' ?_|(apply jc;kernel_rfl)|refine kg' ?_|refine kG' ?_|refine kB' fun _=>?_|refine kA' fun _=>?_|refine kK' fun _=>?_|refine kU' ?_|((first|refine kR' ?_ ?_|refine kQ' ?_ ?_);all_goals(intro hc;try simp only[hcs]at hc;try(exfalso;first|contradiction|omega))))
    (apply ret1; (· exact rfl); intro w' hS)
    exact ⟨rfl, hS⟩
theorem q50 (c n : Int) (w : World) : CallsTo Try.prog 53 [.int .i64 c, .int .i64 n] w fun v w' => v = .bool (hasC c n) ∧ Grew w w' := by
  refine go_in (n := 18) (St.refl _ NoF) Try.func53 rfl rfl ?_
  by_cases h : 0 < n ∧ n ≤ 8
  · obtain ⟨k, rfl⟩ : ∃ k : Nat, n = (k : Int) := ⟨n.toNat, by omega⟩
    have hk := and_bit c k (by omega)
    repeat'(first|refine kv' ?_|apply jJ|refine jE' ?_|refine jp' ?_|(apply jc;kernel_rfl)|refine kg' ?_|refine kG' ?_|refine kB' fun _=>?_|refine kA' fun _=>?_|refine kK' fun _=>?_|refine kU' ?_|(apply kq; (· exact rfl); (· intro w1 h1; exact CallsTo.q (q85 k w1 (by omega)) h1))|((first|refine kR' ?_ ?_|refine kQ' ?_ ?_);all_goals(intro hc;try simp only[hcs]at hc;try(exfalso;first|contradiction|omega))))
    all_goals (
      (apply ret1; (· exact rfl); intro w' hS)
      refine ⟨congrArg Value.bool ?_, hS.toKeep⟩
      unfold hasC
      rw [decide_eq_true h, Bool.true_and, Int.toNat_natCast]
      cases hx : tb c k with
      | true => rw [decide_eq_false (fun e => by rw [hk.1 e] at hx; cases hx)]; rfl
      | false => rw [decide_eq_true (hk.2 hx)]; rfl)
  · repeat'(first|refine kv' ?_|apply jJ|refine jE' ?_|refine jp' ?_|(apply jc;kernel_rfl)|refine kg' ?_|refine kG' ?_|refine kB' fun _=>?_|refine kA' fun _=>?_|refine kK' fun _=>?_|refine kU' ?_|((first|refine kR' ?_ ?_|refine kQ' ?_ ?_);all_goals(intro hc;try simp only[hcs]at hc;try(exfalso;first|contradiction|omega))))
    all_goals (
      (apply ret1; (· exact rfl); intro w' hS)
      refine ⟨congrArg Value.bool ?_, hS.toKeep⟩
      unfold hasC
      rw [decide_eq_false h]
      rfl)
def crewTo (c : Int) (k : Nat) : List Int := ((List.range k).map fun i : Nat => ((i + 1 : Nat) : Int)).filter (hasC c)
theorem crewTo_succ (c : Int) (k : Nat) : crewTo c (k + 1) = crewTo c k ++ if hasC c ((k + 1 : Nat) : Int) then [((k + 1 : Nat) : Int)] else [] := by
  unfold crewTo
  rw [List.range_succ, List.map_append, List.filter_append]
  congr 1
  show List.filter (hasC c) [((k + 1 : Nat) : Int)] = _
  rw [List.filter_cons]
  rfl
theorem crewTo_len (c : Int) (k : Nat) : (crewTo c k).length ≤ k := by
  unfold crewTo
  refine Nat.le_trans (List.length_filter_le _ _) ?_
  simp
theorem crewTo_mem {c : Int} {k : Nat} {x : Int} (h : x ∈ crewTo c k) : 1 ≤ x ∧ x ≤ k ∧ hasC c x = true := by
  unfold crewTo at h
  obtain ⟨h1, h2⟩ := List.mem_filter.1 h
  obtain ⟨i, hi, rfl⟩ := List.mem_map.1 h1
  rw [List.mem_range] at hi
  exact ⟨by omega, by omega, h2⟩
abbrev crewL (c : Int) : List Int := crewTo c 8
theorem q109 (c : Int) (w : World) : CallsTo Try.prog 80 [.int .i64 c] w fun v w' => ∃ a' c', v = .slice a' (crewL c).length c' ∧ NewSl w w' (.slice a' (crewL c).length c') 3 1 (crewL c).length (iv (crewL c)) := by
  refine go_in (n := 17) (St.refl _ NoF) Try.func80 rfl rfl ?_
  repeat'(first|refine kv' ?_|apply jJ|refine jE' ?_|refine jp' ?_|(apply jc;kernel_rfl)|refine kg' ?_|refine kG' ?_|refine kB' fun _=>?_|refine kA' fun _=>?_|refine kK' fun _=>?_|refine kU' ?_|((first|refine kR' ?_ ?_|refine kQ' ?_ ?_);all_goals(intro hc;try simp only[hcs]at hc;try(exfalso;first|contradiction|omega))))
  apply CW.loop [3, 4, 5, 6, 7, 8, 9, 10, 11, 12, 13, 14, 15] (fun s : Cst => s.k ≤ 8) (fun s => [(3, .slice s.a (crewTo c s.k).length s.c), (4, .int .i64 ((s.k + 1 : Nat) : Int))])
    (fun s => St w NoF [ilK s.a s.c (crewTo c s.k)]) (fun s => 8 - s.k)
  · exact fun w' hw' => ⟨⟨0, none, 0⟩, by simp, ⟨rfl, rfl, trivial⟩, hw'.nilsl 3 1⟩
  rintro ⟨k, a2, c2⟩ g hk
  simp only at hk ⊢
  have hsu := crewTo_succ c k
  have hle := crewTo_len c k
  by_cases hlt : k < 8
  · cases hx : hasC c ((k + 1 : Nat) : Int)
    · rw [hx] at hsu
      simp only [Bool.false_eq_true, if_false, List.append_nil] at hsu
      repeat'(first|refine kv' ?_|apply jJ|refine jE' ?_|refine jp' ?_|(apply jc;kernel_rfl)|refine kg' ?_|refine kG' ?_|refine kB' fun _=>?_|refine kA' fun _=>?_|refine kK' fun _=>?_|refine kU' ?_|(apply kq; (· exact rfl); (· intro w1 h1; have hq := CallsTo.q (q50 c ((k + 1 : Nat) : Int) w1) h1; rw [hx] at hq; exact hq))|(apply addX;(iterate 2 exact rfl);(iterate 2(first|omega|(dsimp only;omega)));exact rfl)|((first|refine kR' ?_ ?_|refine kQ' ?_ ?_);all_goals(intro hc;try simp only[hcs]at hc;try(exfalso;first|contradiction|omega))))
      refine At.again (⟨k + 1, a2, c2⟩ : Cst) (by simp only; omega) ?_ ⟨?_, ?_, trivial⟩ ?_ (by simp only; omega)
      · (repeat (first | exact Out.refl _ _ | exact Out.mix | (apply Out.upd; (· exact rfl)) | (apply Out.updL; (· exact rfl)) | (apply Out.mixs; (· exact rfl))))
      · simp only
        rw [hsu]
        rfl
      · exact congrArg (Value.int .i64) (by show ((k + 1 : Nat) : Int) + 1 = ((k + 1 + 1 : Nat) : Int); omega)
      · intro w' hw'
        simp only
        rw [hsu]
        exact hw'.sub subZ
    · rw [hx] at hsu
      simp only [if_true] at hsu
      generalize crewTo c k = L at hsu hle ⊢
      repeat'(first|(apply Go.Hb.kK;(iterate 4 exact rfl);intro bs)|refine kv' ?_|apply jJ|refine jE' ?_|refine jp' ?_|(apply jc;kernel_rfl)|refine kg' ?_|refine kG' ?_|refine kB' fun _=>?_|refine kA' fun _=>?_|refine kK' fun _=>?_|refine kU' ?_|(apply kq; (· exact rfl); (· intro w1 h1; have hq := CallsTo.q (q50 c ((k + 1 : Nat) : Int) w1) h1; rw [hx] at hq; exact hq))|(apply addX;(iterate 2 exact rfl);(iterate 2(first|omega|(dsimp only;omega)));exact rfl)|(apply LR.append (xs := iv L) (news := [Value.int .i64 ((k + 1 : Nat) : Int)]) (m := 1); (· exact rfl); (· exact rfl); (· intro a' c'; (repeat (first | exact sH _ _ _ | apply sT))); (· exact fun w' hw' => hw'.rd_of_blk (mH _ _)); (· exact fun hx => by cases hx); (· exact rfl); (· exact rfl); (· omega); (· unfold maxLen; omega); (· exact rfl); (intro a3 c3))|((first|refine kR' ?_ ?_|refine kQ' ?_ ?_);all_goals(intro hc;try simp only[hcs]at hc;try(exfalso;first|contradiction|omega))))
      refine At.again (⟨k + 1, a3, c3⟩ : Cst) (by simp only; omega) ?_ ⟨?_, ?_, trivial⟩ ?_ (by simp only; omega)
      · (repeat (first | exact Out.refl _ _ | exact Out.mix | (apply Out.upd; (· exact rfl)) | (apply Out.updL; (· exact rfl)) | (apply Out.mixs; (· exact rfl))))
      · simp only
        rw [hsu]
        simp only [List.length_append, List.length_cons, List.length_nil]
        rfl
      · exact congrArg (Value.int .i64) (by show ((k + 1 : Nat) : Int) + 1 = ((k + 1 + 1 : Nat) : Int); omega)
      · intro w' hw'
        simp only
        rw [hsu]
        have e : ilK a3 c3 (L ++ [((k + 1 : Nat) : Int)]) = osl (.slice a3 (L.length + 1) c3) 3 1 (L.length + 1) (iv L ++ [Value.int .i64 ((k + 1 : Nat) : Int)]) := by simp [ilK, iv]
        rw [e]
        exact hw'.sub subZ
  · have hke : k = 8 := by omega
    subst hke
    repeat'(first|refine kv' ?_|apply jJ|refine jE' ?_|refine jp' ?_|(apply jc;kernel_rfl)|refine kg' ?_|refine kG' ?_|refine kB' fun _=>?_|refine kA' fun _=>?_|refine kK' fun _=>?_|refine kU' ?_|((first|refine kR' ?_ ?_|refine kQ' ?_ ?_);all_goals(intro hc;try simp only[hcs]at hc;try(exfalso;first|contradiction|omega))))
    (apply ret1; (· exact rfl); intro w' hS)
    exact ⟨a2, c2, rfl, hS.toNew memZ⟩
def sumL (l : List Int) : Int := l.foldl (fun s x => s + 2 ^ x.toNat) 0
theorem sumL_snoc (l : List Int) (x : Int) : sumL (l ++ [x]) = sumL l + 2 ^ x.toNat := by unfold sumL; rw [List.foldl_append]; rfl
theorem hasC_nat (c : Int) {k : Nat} (h : k + 1 ≤ 8) : hasC c ((k + 1 : Nat) : Int) = tb c (k + 1) := by
  unfold hasC
  rw [decide_eq_true (by omega), Bool.true_and, Int.toNat_natCast]
theorem sumL_crew (c : Int) : ∀ k, k ≤ 8 → sumL (crewTo c k) = sumTo c k
  | 0, _ => rfl
  | k + 1, h => by
    rw [crewTo_succ, hasC_nat c h]
    unfold sumTo
    rw [← sumL_crew c k (by omega)]
    split
    · rw [sumL_snoc, Int.toNat_natCast]
    · rw [List.append_nil]; omega
theorem crewTo_asc (c : Int) (k : Nat) : (crewTo c k).Pairwise (· < ·) := by
  unfold crewTo
  refine List.Pairwise.filter _ ?_
  rw [List.pairwise_map]
  exact List.pairwise_lt_range.imp (fun h => by omega)
theorem pow_lt' {a b : Nat} (h : a < b) : (2 : Int) ^ a + 2 ^ a ≤ 2 ^ b := by
  have h1 : (2 : Nat) ^ (a + 1) ≤ 2 ^ b := Nat.pow_le_pow_right (by decide) h
  have h2 : (2 : Nat) ^ (a + 1) = 2 ^ a * 2 := Nat.pow_succ 2 a
  have e1 : (2 : Int) ^ a = ((2 ^ a : Nat) : Int) := by simp
  have e2 : (2 : Int) ^ b = ((2 ^ b : Nat) : Int) := by simp
  omega
theorem hasC_small {S x : Int} (h0 : 0 ≤ S) (h1 : S < 2 ^ x.toNat) : hasC S x = false := by
  unfold hasC
  by_cases h : 0 < x ∧ x ≤ 8
  · rw [decide_eq_true h, Bool.true_and, tb_div S x.toNat (by omega), Int.fdiv_eq_ediv_of_nonneg S (Int.le_of_lt (Int.pow_pos (by decide))), Int.ediv_eq_zero_of_lt h0 h1]
    rfl
  · rw [decide_eq_false h]; rfl
set_option maxHeartbeats 1000000 in
theorem q108 (a : Option Addr) (c : Nat) (m : Int) (w : World) (hr : Rd w a (iv (crewL m))) : CallsTo Try.prog 79 [.slice a (crewL m).length c] w fun v w' => v = .tuple [.int .i64 (sumB m), .int .i64 0].toArray ∧ Grew w w' := by
  refine go_in (n := 39) (St.rd1 hr) Try.func79 rfl rfl ?_
  have hsum : sumL (crewL m) = sumB m := sumL_crew m 8 (by omega)
  have hlen : (crewL m).length ≤ 8 := crewTo_len m 8
  have hasc : (crewL m).Pairwise (· < ·) := crewTo_asc m 8
  have hmem : ∀ x ∈ crewL m, 1 ≤ x ∧ x ≤ 8 := fun x hx => by have := crewTo_mem hx; omega
  rw [← hsum]
  generalize crewL m = l at hr hlen hasc hmem ⊢
  repeat'(first|refine kv' ?_|apply jJ|refine jE' ?_|refine jp' ?_|(apply jc;kernel_rfl)|refine kg' ?_|refine kG' ?_|refine kB' fun _=>?_|refine kA' fun _=>?_|refine kK' fun _=>?_|refine kU' ?_|((first|refine kR' ?_ ?_|refine kQ' ?_ ?_);all_goals(intro hc;try simp only[hcs]at hc;try(exfalso;first|contradiction|omega))))
  apply CW.loop [2, 3, 4, 5, 6, 7, 8, 9, 10, 11, 12, 13, 14, 15, 16, 17, 18, 19, 20, 21, 22, 23, 24, 25, 26, 27, 28, 29, 30, 31, 32, 33, 34, 35, 36, 37] (fun i : Nat => i ≤ l.length ∧ 0 ≤ sumL (l.take i) ∧ ∀ x ∈ l.drop i, sumL (l.take i) < 2 ^ x.toNat) (fun i : Nat => [(4, Value.int .i64 (sumL (l.take i))), (5, Value.int .i64 (i : Int))]) (fun _ => St w NoF [rdA a (iv l)]) (fun i => l.length - i)
  · exact fun w' hw' => ⟨0, ⟨by omega, Int.le_refl _, fun x hx => Int.pow_pos (by decide)⟩, ⟨rfl, rfl, trivial⟩, hw'⟩
  intro i g ⟨hi, hS0, hSx⟩
  by_cases hlt : i < l.length
  · obtain ⟨ba, oa, rfl⟩ := hr.form (fun e => by have := congrArg List.length e; simp only [iv_length, List.length_nil] at this; omega)
    obtain ⟨y, hy⟩ : ∃ y, l[i] = y := ⟨_, rfl⟩
    have hyb := hmem _ (List.getElem_mem hlt)
    have hyS := hSx l[i] (by rw [List.drop_eq_getElem_cons hlt]; exact List.mem_cons_self ..)
    have hno := hasC_small hS0 hyS
    have htk : sumL (l.take (i + 1)) = sumL (l.take i) + 2 ^ l[i].toNat := by
      rw [List.take_add_one, List.getElem?_eq_getElem hlt]
      exact sumL_snoc _ _
    have hdr : ∀ x ∈ l.drop (i + 1), l[i] < x := by
      have h1 := hasc.sublist (List.drop_sublist i l)
      rw [List.drop_eq_getElem_cons hlt, List.pairwise_cons] at h1
      exact h1.1
    have hp : (2 : Int) ^ l[i].toNat ≤ 256 := by
      have := low9 (n := l[i].toNat) (by omega)
      rcases this with e | e | e | e | e | e | e | e | e <;> rw [e] <;> decide
    have hp0 : (0 : Int) < 2 ^ l[i].toNat := Int.pow_pos (by decide)
    have hiv : (iv l)[i]? = some (.int .i64 (l[i].toNat : Int)) := by
      rw [iv_get hlt, Int.toNat_of_nonneg (by omega)]
    have hno' : hasC (sumL (l.take i)) (l[i].toNat : Int) = false := by rw [Int.toNat_of_nonneg (by omega)]; exact hno
    have hn8 : l[i].toNat ≤ 8 := by omega
    have hn1 : 1 ≤ l[i].toNat := by omega
    have hdr' : ∀ x ∈ l.drop (i + 1), (l[i].toNat : Int) < x := fun x hx => by have := hdr x hx; omega
    generalize l[i].toNat = k at *
    repeat'(first|refine kv' ?_|apply jJ|refine jE' ?_|refine jp' ?_|(apply jc;kernel_rfl)|refine kg' ?_|refine kG' ?_|refine kB' fun _=>?_|refine kA' fun _=>?_|refine kK' fun _=>?_|refine kU' ?_|(apply idxX;(iterate 2 exact rfl);(iterate 2(first|omega|(dsimp only;omega)));exact rfl)|(apply LR.ev; (· apply Ev.load_rd; (· exact rfl); (· repeat (first | exact mH _ _ | apply mT)); (· exact (by rw [show (i : Int).toNat * 1 = i by omega]; exact hiv))); (· exact rfl))|(apply addX;(iterate 2 exact rfl);(iterate 2(first|omega|(dsimp only;omega)));exact rfl)|(apply kq; (· exact rfl); (· intro w1 h1; first | (have hq := CallsTo.q (q50 (sumL (l.take i)) (k : Int) w1) h1; rw [hno'] at hq; exact hq) | exact CallsTo.q (q85 k w1 (by omega)) h1))|((first|refine kR' ?_ ?_|refine kQ' ?_ ?_);all_goals(intro hc;try simp only[hcs]at hc;try(exfalso;first|contradiction|omega))))
    refine At.again (i + 1) ⟨by omega, by rw [htk]; omega, fun x hx => ?_⟩ ?_ ⟨?_, rfl, trivial⟩ (fun w' hw' => hw') (by omega)
    · have h1 := hdr' x hx
      have h2 := pow_lt' (a := k) (b := x.toNat) (by omega)
      rw [htk]
      omega
    · (repeat (first | exact Out.refl _ _ | exact Out.mix | (apply Out.upd; (· exact rfl)) | (apply Out.updL; (· exact rfl)) | (apply Out.mixs; (· exact rfl))))
    · rw [htk]; rfl
  · have hie : i = l.length := by omega
    subst hie
    rw [List.take_length] at hS0 hSx ⊢
    repeat'(first|refine kv' ?_|apply jJ|refine jE' ?_|refine jp' ?_|(apply jc;kernel_rfl)|refine kg' ?_|refine kG' ?_|refine kB' fun _=>?_|refine kA' fun _=>?_|refine kK' fun _=>?_|refine kU' ?_|((first|refine kR' ?_ ?_|refine kQ' ?_ ?_);all_goals(intro hc;try simp only[hcs]at hc;try(exfalso;first|contradiction|omega))))
    (apply ret2; (· exact rfl); intro w' hS)
    exact ⟨rfl, hS.toKeep⟩
theorem q83 (c : Int) (w : World) : CallsTo Try.prog 48 [.int .i64 c] w fun v w' => v = .int .i64 (if crewOk c then 0 else 2) ∧ Grew w w' := by
  refine go_in (n := 14) (St.refl _ NoF) Try.func48 rfl rfl ?_
  have hk := sumB_ok c
  repeat'(first|refine kv' ?_|apply jJ|refine jE' ?_|refine jp' ?_|(apply jc;kernel_rfl)|refine kg' ?_|refine kG' ?_|refine kB' fun _=>?_|refine kA' fun _=>?_|refine kK' fun _=>?_|refine kU' ?_|((first|refine kR' ?_ ?_|refine kQ' ?_ ?_);all_goals(intro hc;try simp only[hcs]at hc;try(exfalso;first|contradiction|omega))))
  apply LR.call
  · exact rfl
  intro w1 h1
  refine (q109 c w1).mono ?_
  rintro v w2 ⟨a1, c1, rfl, hn⟩
  refine LR.back (h1.newSl hn) ?_
  clear hn h1
  repeat'(first|refine kv' ?_|apply jJ|refine jE' ?_|refine jp' ?_|(apply jc;kernel_rfl)|refine kg' ?_|refine kG' ?_|refine kB' fun _=>?_|refine kA' fun _=>?_|refine kK' fun _=>?_|refine kU' ?_|(apply kq; (· exact rfl); (· intro w1 h1; exact CallsTo.q (q108 a1 c1 c w1 (h1.rd_of_own memZ)) h1))|((first|refine kR' ?_ ?_|refine kQ' ?_ ?_);all_goals(intro hc;try simp only[hcs]at hc;try(exfalso;first|contradiction|omega))))
  all_goals (
    (apply ret1; (· exact rfl); intro w' hS)
    refine ⟨congrArg (Value.int .i64) ?_, hS.toKeep⟩
    first
      | (rw [if_pos (hk.1 (by assumption))])
      | (rw [if_neg (fun h => absurd (hk.2 h) (by assumption))]))
end Go.Proofs.Ytgblmkpfkcibiaa

namespace Go.Hb
section
variable {P : Program} {md : Region.Mode} {ops : Array Oper} {Q Q' : Exit → Act → World → Prop} {z : Nat}
theorem oper_only (hN : ∀ e a w, Q' e a w → e = .normal) {o : Oper} {a : Act} {w : World} {K K' : Act → World → Prop} (hk : ∀ a w, K a w → K' a w) (h : o.wp P a w K Q') : o.wp P a w K' Q := by
  unfold Oper.wp at *
  generalize (execOp a.eval o).run P w = r at *
  cases r with
  | ok nx w' =>
    cases nx <;> simp only [Oper.upon] at h ⊢
    case value => exact hk _ _ h
    case skip => exact hk _ _ h
    case defer => exact hk _ _ h
    case enter g args =>
      refine Calls.mono h fun e w'' he => ?_
      cases e with
      | returned u => exact hk _ _ he
      | panicked c => cases hN _ _ _ he
      | outgrown => obtain ⟨_, _, he⟩ := he; cases hN _ _ _ he
    case row => exact Rows.mono h (fun _ _ he => hk _ _ he)
  | halt x w' =>
    cases x <;> simp only [Oper.upon] at h ⊢
    case panic => cases hN _ _ _ h
theorem wpOp_only (hN : ∀ e a w, Q' e a w → e = .normal) {i : Nat} {a : Act} {w : World} {K K' : Act → World → Prop} (hk : ∀ a w, K a w → K' a w) (h : wpOp P ops Q' i K a w) : wpOp P ops Q i K' a w := by
  unfold wpOp at *
  cases ho : ops[i]? with
  | none => simp only [ho] at h; exact hk _ _ h
  | some o =>
    simp only [ho] at h ⊢
    split
    · rename_i hw
      rw [if_pos hw] at h
      rcases h with h | ⟨_, a', w', he⟩
      · exact .inl (oper_only hN hk h)
      · cases hN _ _ _ he
    · rename_i hw
      rw [if_neg hw] at h
      exact hk _ _ h
structure Sink (md : Region.Mode) (ops : Array Oper) (z : Nat) : Prop where
  deps : ∀ (j : Nat) (o : Oper), ops[j]? = some o → ∀ e ∈ o.after, Region.binds md e = true → e.on ≠ z ∧ e.on < j
  all : ∀ i, i < ops.size → i ≠ z → ∃ (j : Nat) (o : Oper), ops[j]? = some o ∧ ∃ e ∈ o.after, Region.binds md e = true ∧ e.on = i
  lt : z < ops.size
theorem getD_tf {listed : Array Bool} {i : Nat} (h : listed.getD i false = true) : listed.getD i true = true := by
  rcases Nat.lt_or_ge i listed.size with h' | h'
  · simp [h'] at h ⊢; exact h
  · simp [Array.getElem?_eq_none h'] at h
def Closed (md : Region.Mode) (ops : Array Oper) (z : Nat) (listed : Array Bool) : Prop := ∀ (j : Nat) (o : Oper), ops[j]? = some o → j ≠ z → listed.getD j false = true → ∀ e ∈ o.after, Region.binds md e = true → listed.getD e.on false = true
theorem Sink.before (hs : Sink md ops z) {listed : Array Bool} (hc : Closed md ops z listed) (hz : z ∈ Region.ready md ops listed) : ∀ d k, ops.size - k ≤ d → k < ops.size → k ≠ z → listed.getD k false = true := by
  intro d
  induction d with
  | zero => intro k hd hk; omega
  | succ d ih =>
    intro k hd hk hkz
    obtain ⟨j, o, ho, e, he, hb, rfl⟩ := hs.all k hk hkz
    have hj : j < ops.size := (Array.getElem?_eq_some_iff.1 ho).1
    have hlt := (hs.deps j o ho e he hb).2
    by_cases hjz : j = z
    · subst hjz
      obtain ⟨_, o', ho', hd'⟩ := mem_ready.1 hz
      rw [ho] at ho'; cases ho'
      exact hd' e he hb
    · exact hc j o ho hjz (ih j (by omega) hj hjz) e he hb
end
section
variable {P : Program} {n : Nat} {ops : List Oper} {Q : Post} {f : Frm} {C : World → Prop}
end
end Go.Hb

namespace Go.Hb

def Finds {κ : Type} (P : Program) (kt : TypeId) (enc : κ → Value) (l : List (κ × Value)) (es : List MapEntry) (a : κ) (w : World) : Prop :=
  ((Instr.findKey kt (enc a) es).run P w = .ok none w ∧ ∀ p ∈ l, p.1 ≠ a) ∨ ∃ j u, (Instr.findKey kt (enc a) es).run P w = .ok (some (j, u)) w ∧ l[j]? = some (a, u)
class KMap (P : Program) (T : TypeId) {κ : Type} (enc : κ → Value) (ok : κ → Prop) (z : outParam Value) : Prop where
  ex : ∃ kt et, P.underlying T = some (.map kt et) ∧ (∀ em a w, ok a → (Instr.checkKey em 10000 kt (enc a)).run P w = .ok () w) ∧
    (∀ (l : List (κ × Value)) (es : List MapEntry) a w, es.map (fun e => (e.key, e.val)) = l.map (fun p => (enc p.1, p.2)) → (∀ p ∈ l, ok p.1) → ok a → Finds P kt enc l es a w) ∧ ∀ w, (zeroValue et).run P w = .ok z w
def kmH {κ : Type} (enc : κ → Value) (b : Nat) (l : List (κ × Value)) (w : World) : Prop := ∃ es clock, w.heap[b]? = some (.map es clock) ∧ es.toList.map (fun e => (e.key, e.val)) = l.map (fun p => (enc p.1, p.2))
def kmap {κ : Type} (enc : κ → Value) (b : Nat) (l : List (κ × Value)) : Asrt := .ex (fun j => j = b) (kmH enc b l)
section
variable {κ : Type} {enc : κ → Value} {ok : κ → Prop}
theorem kmap.dep (b : Nat) (l : List (κ × Value)) : (kmap enc b l).dep := by
  intro w w' hk h
  obtain ⟨es, clock, hb, he⟩ := h
  exact ⟨es, clock, by rw [hk b rfl]; exact hb, he⟩
theorem kmap.live {b : Nat} {l : List (κ × Value)} {w : World} (h : kmH enc b l w) : ∀ j, (kmap enc b l).foot j → j < w.heap.size := by
  rintro j rfl
  obtain ⟨es, clock, hb, _⟩ := h
  exact (Array.getElem?_eq_some_iff.1 hb).1
variable {P : Program} {f : Frm} {T T' : TypeId} {x y z : Operand} {v zv : Value} {w0 : World} {F : Nat → Prop} {L L' : List Asrt}
variable {C : World → Prop} {n : Nat} {ops rest : List Oper} {Q : Post} {p : String} {af : Array Edge} {d : Nat}
theorem LR.makeMapK [h : KMap P T enc ok zv] (hd : Nat.blt d n = true) (k : ∀ b, LR false P n ops rest Q (upd f d (.map (some b))) (St w0 F (kmap enc b [] :: L))) :
    LR false P n ops (⟨some d, .makeMap T none, T', p, af, none⟩ :: rest) Q f (St w0 F L) := by
  intro w hw a ha
  refine wpList_plain rfl fun K hK => ?_
  have hr : (execOp a.eval ⟨some d, .makeMap T none, T', p, af, none⟩).run P w = .ok (.value (.map (some w.heap.size))) { w with heap := w.heap.push (.map #[] 0) } := by
    simp [execOp, Instr.makeMap, newObj, Sem.run]
  simp only [Oper.wp, hr, Oper.upon_value]
  refine hK _ _ (k w.heap.size _ ?_ _ (ha.put _ hd))
  have h1 := hw.alloc (.map #[] 0)
  refine h1.turn (Sel.head _ _ _) rfl (St.refl _ _) ?_ (fun k hk => .inl hk) (kmap.dep _ _)
  exact ⟨#[], 0, h1.own_at (List.Mem.head _), rfl⟩
theorem Ev.lookup_no {b : Nat} {l : List (κ × Value)} {a : κ} [h : KMap P T enc ok zv] (hx : f.ev x = .map (some b)) (hy : f.ev y = enc a) (hm : ∀ w, C w → kmH enc b l w) (hl : ∀ p ∈ l, ok p.1) (ha : ok a) (hno : ∀ p ∈ l, p.1 ≠ a) :
    Ev P C f (.lookup T x y true) T' (.tuple [zv, .bool false].toArray) := fun w hw d p af g => by
  obtain ⟨kt, et, ht, K, hf, hz⟩ := h.ex
  obtain ⟨es, clock, hb, he⟩ : kmH enc b l w := hm w hw
  have hlx := fun em => K em a w ha
  rcases hf l es.toList a w he hl ha with ⟨h1, _⟩ | ⟨j, u, h1, h2⟩
  · simp [execOp, hx, hy, Instr.lookup, run_underlying ht, MapKept.run_getObj_map hb, hlx, h1, hz, Result.andThen]
  · exact absurd rfl (hno _ (List.mem_of_getElem? h2))
theorem Ev.lookup_yes {b : Nat} {l : List (κ × Value)} {a : κ} {u : Value} [h : KMap P T enc ok zv] (hx : f.ev x = .map (some b)) (hy : f.ev y = enc a) (hm : ∀ w, C w → kmH enc b l w) (hl : ∀ p ∈ l, ok p.1) (hd : (l.map Prod.fst).Nodup) (ha : (a, u) ∈ l) :
    Ev P C f (.lookup T x y true) T' (.tuple [u, .bool true].toArray) := fun w hw d p af g => by
  obtain ⟨kt, et, ht, K, hf, hz⟩ := h.ex
  obtain ⟨es, clock, hb, he⟩ : kmH enc b l w := hm w hw
  have hlx := fun em => K em a w (hl _ ha)
  rcases hf l es.toList a w he hl (hl _ ha) with ⟨h1, h2⟩ | ⟨j, u', h1, h2⟩
  · exact absurd rfl (h2 _ ha)
  · have hu : u' = u := by
      obtain ⟨i, hi⟩ := List.getElem?_of_mem ha
      have e1 : (l.map Prod.fst)[i]? = some a := by rw [List.getElem?_map, hi]; rfl
      have e2 : (l.map Prod.fst)[j]? = some a := by rw [List.getElem?_map, h2]; rfl
      have hi2 := (List.getElem?_eq_some_iff.1 e1).1
      have := (List.getElem?_inj hi2 hd).1 (e1.trans e2.symm)
      subst this
      rw [hi] at h2
      simpa using h2.symm
    subst hu
    simp [execOp, hx, hy, Instr.lookup, run_underlying ht, MapKept.run_getObj_map hb, hlx, h1, Result.andThen]
theorem LR.insertK {b : Nat} {l : List (κ × Value)} {a : κ} [h : KMap P T enc ok zv] (hx : f.ev x = .map (some b)) (hy : f.ev y = enc a) (hz : f.ev z = v)
    (hs : Sel L (kmap enc b l) (kmap enc b (l ++ [(a, v)])) L') (hl : ∀ p ∈ l, ok p.1) (ha : ok a) (hno : ∀ p ∈ l, p.1 ≠ a)
    (k : LR false P n ops rest Q f (St w0 F L')) : LR false P n ops (⟨none, .mapUpdate T x y z, T', p, af, none⟩ :: rest) Q f (St w0 F L) := by
  intro w hw act hact
  refine wpList_plain rfl fun K' hK => ?_
  obtain ⟨kt, et, ht, K, hf, _⟩ := h.ex
  obtain ⟨es, clock, hb, he⟩ : kmH enc b l w := (hw.holds _ hs.mem)
  have hlx := fun em => K em a w ha
  rcases hf l es.toList a w he hl ha with ⟨h1, _⟩ | ⟨j, u, h1, h2⟩
  · have hr : (execOp act.eval ⟨none, .mapUpdate T x y z, T', p, af, none⟩).run P w = .ok .skip { w with heap := w.heap.setIfInBounds b (.map (es.push ⟨enc a, v, clock⟩) (clock + 1)) } := by
      rw [hact.eval]
      simp only [execOp, hx, hy, hz, Instr.mapUpdate, Sem.run_bind, run_underlying ht, Result.andThen_ok, MapKept.run_getObj_map hb, hlx, h1, MapKept.run_setObj_map _ hb, Sem.run_pure]
    simp only [Oper.wp, hr, Oper.upon_skip]
    have hsz : b < w.heap.size := (Array.getElem?_eq_some_iff.1 hb).1
    refine hK _ _ (k _ ?_ _ (hact.put_none undef))
    exact hw.turn hs rfl (Keep.setObj w b _ rfl) ⟨es.push ⟨enc a, v, clock⟩, clock + 1, by show (w.heap.setIfInBounds b _)[b]? = _; simp [hsz], by simp [he]⟩ (fun k hk => .inl hk) (kmap.dep _ _)
  · exact absurd rfl (hno _ (List.mem_of_getElem? h2))
theorem LR.deleteK [DecidableEq κ] {b : Nat} {l : List (κ × Value)} {a : κ} {K1 : TypeId} [h : KMap P T enc ok zv] (hu : (match P.underlying T with | some (.map k _) => Nat.beq k K1 | _ => false) = true) (hx : f.ev x = .map (some b)) (hy : f.ev y = enc a)
    (hs : Sel L (kmap enc b l) (kmap enc b (l.filter fun p => decide (p.1 ≠ a))) L') (hl : ∀ p ∈ l, ok p.1) (hnd : (l.map Prod.fst).Nodup) (ha : ok a)
    (k : LR false P n ops rest Q f (St w0 F L')) : LR false P n ops (⟨none, .call ⟨.builtin .delete, [x, y].toArray, [T, K1].toArray⟩, T', p, af, none⟩ :: rest) Q f (St w0 F L) := by
  intro w hw act hact
  refine wpList_plain rfl fun K' hK => ?_
  obtain ⟨kt, et, ht, K, hf, _⟩ := h.ex
  obtain ⟨es, clock, hb, he⟩ : kmH enc b l w := (hw.holds _ hs.mem)
  have hlx := fun em => K em a w ha
  have hsz : b < w.heap.size := (Array.getElem?_eq_some_iff.1 hb).1
  have fin : ∀ es', es'.toList.map (fun e => (e.key, e.val)) = (l.filter fun p => decide (p.1 ≠ a)).map (fun p => (enc p.1, p.2)) → (Builtin.delete_ #[T, K1] T' #[.map (some b), enc a]).run P w = .ok (.tuple #[]) { w with heap := w.heap.setIfInBounds b (.map es' clock) } →
      (⟨none, .call ⟨.builtin .delete, [x, y].toArray, [T, K1].toArray⟩, T', p, af, none⟩ : Oper).wp P act w K' (lift n Q) := by
    intro es' he' hr
    have hr' : (execOp act.eval ⟨none, .call ⟨.builtin .delete, [x, y].toArray, [T, K1].toArray⟩, T', p, af, none⟩).run P w = .ok (.value (.tuple #[])) { w with heap := w.heap.setIfInBounds b (.map es' clock) } := by
      rw [hact.eval]
      simp only [execOp, resolve, invoke, builtin, Sem.run_bind, Sem.run_pure, Result.andThen_ok, List.map_toArray, List.map_cons, List.map_nil, hx, hy, hr]
    simp only [Oper.wp, hr', Oper.upon_value]
    refine hK _ _ (k _ ?_ _ (hact.put_none _))
    exact hw.turn hs rfl (Keep.setObj w b _ rfl) ⟨es', clock, by show (w.heap.setIfInBounds b _)[b]? = _; simp [hsz], he'⟩ (fun k hk => .inl hk) (kmap.dep _ _)
  rcases hf l es.toList a w he hl ha with ⟨h1, h2⟩ | ⟨j, u, h1, h2⟩
  · refine fin es ?_ ?_
    · rw [List.filter_eq_self.2 (fun p hp => by simpa using h2 p hp), he]
    · simp [Builtin.delete_, run_underlying ht, MapKept.run_getObj_map hb, hlx, h1, MapKept.run_setObj_map _ hb, Result.andThen]
  · have hlen : es.toList.length = l.length := by have := congrArg List.length he; simpa using this
    have hj : j < l.length := (List.getElem?_eq_some_iff.1 h2).1
    have hjs : j < es.size := by rw [← Array.length_toList, hlen]; exact hj
    refine fin (es.eraseIdxIfInBounds j) ?_ ?_
    · have hsub : (es.eraseIdxIfInBounds j).toList = es.toList.eraseIdx j := by
        unfold Array.eraseIdxIfInBounds
        rw [dif_pos hjs]
        simp
      have hf := ChangeMaps.filter_eq_eraseIdx (fun p : κ × Value => decide (p.1 = a)) l j (a, u) h2 (by simp) (by
        rw [List.nodup_iff_pairwise_ne, List.pairwise_map] at hnd
        exact hnd.imp (fun {p q} hpq ⟨e1, e2⟩ => hpq (by simp at e1 e2; rw [e1, e2])))
      rw [hsub, ChangeMaps.map_eraseIdx, he, ← ChangeMaps.map_eraseIdx, ← hf]
      congr 1
      refine List.filter_congr fun p _ => ?_
      simp
    · simp [Builtin.delete_, run_underlying ht, MapKept.run_getObj_map hb, hlx, h1, MapKept.run_setObj_map _ hb, Result.andThen]
end
end Go.Hb

namespace Go.Hb
section
variable {α : Type} {f : α → List Value} {n : Nat}
theorem rows_get (hf : ∀ x, (f x).length = n) : ∀ (l : List α) (i j : Nat) (v : Value) (h : i < l.length), (f l[i])[j]? = some v → (l.flatMap f)[i * n + j]? = some v
  | x :: r, 0, j, v, h, hj => by
    have hlt : j < (f x).length := (List.getElem?_eq_some_iff.1 hj).1
    rw [List.flatMap_cons, Nat.zero_mul, Nat.zero_add, List.getElem?_append_left hlt]
    exact hj
  | x :: r, i + 1, j, v, h, hj => by
    have ih := rows_get hf r i j v (by simpa using h) hj
    rw [List.flatMap_cons, List.getElem?_append_right (by rw [hf]; rw [Nat.add_mul]; omega), hf, show (i + 1) * n + j - n = i * n + j by rw [Nat.add_mul]; omega]
    exact ih
theorem rows_len (hf : ∀ x, (f x).length = n) : ∀ (l : List α), (l.flatMap f).length = l.length * n
  | [] => by simp
  | x :: r => by rw [List.flatMap_cons, List.length_append, hf, rows_len hf r, List.length_cons, Nat.add_mul]; omega
theorem rd_row (hf : ∀ x, (f x).length = n) {w : World} {b o : Nat} {l : List α} (h : Rd w (some ⟨b, o, none⟩) (l.flatMap f)) {i q : Nat} (hi : i < l.length) (hq : q = i * n) : ∀ j v, (f l[i])[j]? = some v → w.cell? ((⟨b, o + q, none⟩ : Addr).add j) = some v := by
  intro j v hj
  subst hq
  rw [addr_add, Nat.add_assoc]
  exact h.cell (rows_get hf l i j v hi hj)
theorem row_cell (hf : ∀ x, (f x).length = n) {w : World} {b o q i : Nat} {l : List α} {v : Value} (h : Rd w (some ⟨b, o, none⟩) (l.flatMap f)) (hi : i < l.length) (j : Nat) (hj : (f l[i])[j]? = some v) (hq : q = o + i * n + j) : w.cell? ⟨b, q, none⟩ = some v := by
  subst hq
  rw [Nat.add_assoc]
  exact h.cell (rows_get hf l i j v hi hj)
theorem rows_ne (hf : ∀ x, (f x).length = n) (hn : 0 < n) {l : List α} {i : Nat} (h : i < l.length) : l.flatMap f ≠ [] := fun e => by
  have := rows_len hf l
  rw [e] at this
  have h2 : 1 * n ≤ l.length * n := Nat.mul_le_mul_right _ (by omega)
  simp only [List.length_nil] at this
  omega
theorem rows_of {R : α → Prop} : ∀ (css : List (List Value)), (∀ c ∈ css, ∃ x, c = f x ∧ R x) → ∃ l : List α, css.flatten = l.flatMap f ∧ l.length = css.length ∧ ∀ x ∈ l, R x
  | [], _ => ⟨[], rfl, rfl, fun p hp => by simp at hp⟩
  | c :: r, h => by
    obtain ⟨x, rfl, hp⟩ := h c List.mem_cons_self
    obtain ⟨l, h1, h2, h3⟩ := rows_of r fun c hc => h c (List.mem_cons_of_mem _ hc)
    refine ⟨x :: l, by rw [List.flatten_cons, h1]; rfl, by simp [h2], fun q hq => ?_⟩
    rcases List.mem_cons.1 hq with rfl | hq
    · exact hp
    · exact h3 q hq
end
section
variable {w0 w : World} {L : List Asrt} {x : Asrt} {a : Option Addr} {xs : List Value}
theorem St.oldRdF {F : Nat → Prop} (h : St w0 F L w) (hr : Rd w0 a xs) (hF : ∀ k, rdFoot a xs k → ¬ F k) : Rd w a xs :=
  Rd.dep a xs w0 w (fun k hk => h.keep k (hr.live k hk) (hF k hk)) hr
theorem DW.castL {P : Program} {n : Nat} {ops : List Oper} {Q : Post} {done : List Nat} {S : World → Prop} {f : Frm} {w0 : World} {F : Nat → Prop} {L L' : List Asrt} (e : L = L') (h : DW P n ops Q done S f (St w0 F L')) : DW P n ops Q done S f (St w0 F L) := e ▸ h
end
end Go.Hb

namespace Go.Hb
def intK (q : IntKind) (a : Int) : Value := .int q a
def okK (_ : Int) : Prop := True
theorem findNow_l (q : IntKind) (a : Int) : ∀ (es : List MapEntry) (l : List (Int × Value)) (i : Nat), es.map (fun e => (e.key, e.val)) = l.map (fun p => (intK q p.1, p.2)) →
    (Instr.findNow (.int q) (.int q a) es i = some none ∧ ∀ p ∈ l, p.1 ≠ a) ∨ ∃ j u, Instr.findNow (.int q) (.int q a) es i = some (some (i + j, u)) ∧ l[j]? = some (a, u)
  | [], l, i, h => by
    have hl : l = [] := by cases l with | nil => rfl | cons p r => simp at h
    subst hl
    exact .inl ⟨rfl, by simp⟩
  | e :: es, l, i, h => by
    cases l with
    | nil => simp at h
    | cons p r =>
      simp only [List.map_cons, List.cons.injEq, Prod.mk.injEq] at h
      obtain ⟨⟨h1, h2⟩, h3⟩ := h
      have hs : Instr.sameNow (.int q) (.int q a) e.key = some (decide (a = p.1)) := by
        rw [h1]
        simp only [Instr.sameNow, intK]
        congr 1
      by_cases hp : a = p.1
      · refine .inr ⟨0, e.val, ?_, ?_⟩
        · rw [Instr.findNow, hs, decide_eq_true hp]; rfl
        · simp [hp, h2]
      · rcases findNow_l q a es r (i + 1) h3 with ⟨h4, h5⟩ | ⟨j, u, h4, h5⟩
        · refine .inl ⟨by simp [Instr.findNow, hs, hp, h4], fun x hm => ?_⟩
          rcases List.mem_cons.1 hm with rfl | hm
          · exact fun e => hp e.symm
          · exact h5 x hm
        · refine .inr ⟨j + 1, u, ?_, by simpa using h5⟩
          rw [show i + (j + 1) = i + 1 + j by omega]
          simp [Instr.findNow, hs, hp, h4]
theorem KMap.ofInt {P : Program} {T kt et : TypeId} {q : IntKind} {z : Value} (hT : P.underlying T = some (.map kt et)) (hk : P.underlying kt = some (.int q)) (hz : ∀ w, (zeroValue et).run P w = .ok z w) : KMap P T (intK q) okK z := by
  refine ⟨kt, et, hT, fun em a w _ => MapKept.run_checkKey (k := .int q a) hk (by rfl) em 9999, fun l es a w he _ _ => ?_, hz⟩
  rcases findNow_l q a es l 0 he with ⟨h1, h2⟩ | ⟨j, u, h1, h2⟩
  · exact .inl ⟨MapKept.run_findKey hk h1, h2⟩
  · rw [Nat.zero_add] at h1
    exact .inr ⟨j, u, MapKept.run_findKey hk h1, h2⟩
section
variable {P : Program} {ops : List Oper} {z : Nat} {Z D : List Nat}
structure Gate (ops : List Oper) (z : Nat) (Z D : List Nat) : Prop where
  mem : Z.contains z = true
  zlt : ∀ j, Z.contains j = true → j < ops.length
  deps : ∀ (j : Nat) (o : Oper), ops[j]? = some o → Z.contains j = false → ∀ e ∈ o.after, Region.binds .any e = true → Z.contains e.on = false ∧ e.on < j
  others : ∀ (j : Nat) (o : Oper), ops[j]? = some o → Z.contains j = true → j ≠ z → ∃ e ∈ o.after, Region.binds .any e = true ∧ Z.contains e.on = true
  zdeps : ∀ (o : Oper), ops[z]? = some o → ∀ e ∈ o.after, Region.binds .any e = true → Z.contains e.on = false
  all : ∀ i, i < ops.length → Z.contains i = false → D.contains i = false → ∃ (j : Nat) (o : Oper), ops[j]? = some o ∧ (j = z ∨ (Z.contains j = false ∧ i < j)) ∧ ∃ e ∈ o.after, Region.binds .any e = true ∧ e.on = i
def gateB (ops : List Oper) (z : Nat) (Z D A : List Nat) : Bool :=
  Z.contains z && Z.all (fun j => Nat.blt j ops.length) && ((List.range ops.length).all fun j => match ops[j]? with
    | some o =>
      (Z.contains j || o.after.all fun e => !Region.binds .any e || (!Z.contains e.on && Nat.blt e.on j)) &&
      (!Z.contains j || Nat.beq j z || o.after.any fun e => Region.binds .any e && Z.contains e.on) &&
      (!Nat.beq j z || o.after.all fun e => !Region.binds .any e || !Z.contains e.on) &&
      (Z.contains j || D.contains j || ((List.range ops.length).any fun k => (Nat.beq k z || (!Z.contains k && Nat.blt j k)) && match ops[k]? with | some o => o.after.any fun e => Region.binds .any e && Nat.beq e.on j | none => false)) &&
      ((D ++ A).contains j == !Z.contains j)
    | none => false) && (D ++ A).all (fun j => Nat.blt j ops.length) && Nat.ble ((D ++ A).length + Z.length) ops.length && Nat.ble ops.length ((D ++ A).length + Z.length)
theorem gateB_sound {A : List Nat} (h : gateB ops z Z D A = true) : Gate ops z Z D ∧ (∀ j, j < ops.length → ((D ++ A).contains j = !Z.contains j)) ∧ (∀ j ∈ D ++ A, j < ops.length) ∧ (D ++ A).length + Z.length = ops.length := by
  unfold gateB at h
  simp only [Bool.and_eq_true] at h
  obtain ⟨⟨⟨⟨⟨h1, h2⟩, h3⟩, h4⟩, h5⟩, h6⟩ := h
  have h5' := Nat.le_of_ble_eq_true h5
  have h6' := Nat.le_of_ble_eq_true h6
  have key : ∀ j o, ops[j]? = some o → _ := fun j o ho => by
    have hj : j < ops.length := (List.getElem?_eq_some_iff.1 ho).1
    have := List.all_eq_true.1 h3 j (List.mem_range.2 hj)
    rw [ho] at this
    simp only [Bool.and_eq_true] at this
    exact this
  refine ⟨⟨h1, fun j hj => ?_, fun j o ho hz e he hb => ?_, fun j o ho hz hne => ?_, fun o ho e he hb => ?_, fun i hi hz hd => ?_⟩, fun j hj => ?_, fun j hj => ?_, by omega⟩
  · have := List.all_eq_true.1 h2 j (by simpa using hj)
    simpa using this
  · have := (key j o ho).1.1.1.1
    rw [hz, Bool.false_or] at this
    have := (Array.all_eq_true_iff_forall_mem.1 this) e he
    simp only [hb, Bool.not_true, Bool.false_or, Bool.and_eq_true, Bool.not_eq_true'] at this
    exact ⟨this.1, by simpa using this.2⟩
  · have := (key j o ho).1.1.1.2
    rw [hz] at this
    simp only [Bool.not_true, Bool.false_or, Bool.or_eq_true] at this
    rcases this with h | h
    · exact absurd (Nat.eq_of_beq_eq_true h) hne
    · obtain ⟨i, hi, h⟩ := Array.any_eq_true.1 h
      simp only [Bool.and_eq_true] at h
      exact ⟨_, Array.getElem_mem hi, h.1, h.2⟩
  · have := (key z o ho).1.1.2
    rw [show Nat.beq z z = true from Nat.beq_refl z] at this
    simp only [Bool.not_true, Bool.false_or] at this
    have := (Array.all_eq_true_iff_forall_mem.1 this) e he
    simp only [hb, Bool.not_true, Bool.false_or, Bool.not_eq_true'] at this
    exact this
  · have := (key i ops[i] (by simp [hi])).1.2
    rw [hz, hd] at this
    simp only [Bool.false_or] at this
    obtain ⟨k, _, hk⟩ := List.any_eq_true.1 this
    simp only [Bool.and_eq_true, Bool.or_eq_true] at hk
    obtain ⟨hk1, hk2⟩ := hk
    split at hk2
    · rename_i o ho
      obtain ⟨m, hm, hx⟩ := Array.any_eq_true.1 hk2
      simp only [Bool.and_eq_true] at hx
      refine ⟨k, o, ho, ?_, _, Array.getElem_mem hm, hx.1, Nat.eq_of_beq_eq_true hx.2⟩
      rcases hk1 with h | h
      · exact .inl (Nat.eq_of_beq_eq_true h)
      · simp only [Bool.not_eq_true'] at h
        exact .inr ⟨h.1, by simpa using h.2⟩
    · cases hk2
  · have := (key j ops[j] (by simp [hj])).2
    exact beq_iff_eq.1 this
  · have := List.all_eq_true.1 h4 j hj
    simpa using this
def orZ (listed : Array Bool) (Z : List Nat) : Array Bool := Z.foldl (fun l i => l.setIfInBounds i true) listed
theorem orZ_size : ∀ (Z : List Nat) (listed : Array Bool), (orZ listed Z).size = listed.size
  | [], _ => rfl
  | i :: r, l => by unfold orZ; rw [List.foldl_cons]; have := orZ_size r (l.setIfInBounds i true); unfold orZ at this; rw [this]; simp
theorem orZ_get {b : Bool} : ∀ (Z : List Nat) (listed : Array Bool) (j : Nat), j < listed.size → (orZ listed Z).getD j b = (listed.getD j b || Z.contains j)
  | [], l, j, _ => by simp [orZ]
  | i :: r, l, j, hj => by
    unfold orZ
    rw [List.foldl_cons]
    have := orZ_get (b := b) r (l.setIfInBounds i true) j (by simpa using hj)
    unfold orZ at this
    rw [this]
    by_cases h : i = j
    · subst h
      simp [hj]
    · rw [getD_set_ne b h]
      have : (i :: r).contains j = r.contains j := by
        rw [List.contains_cons, show (j == i) = false by simpa using fun e => h e.symm, Bool.false_or]
      rw [this]
theorem lst_orZ (ops : List Oper) (D Z : List Nat) : lst ops (D ++ Z) = orZ (lst ops D) Z := by unfold lst orZ; rw [List.foldl_append]
theorem lst_size (ops : List Oper) (D : List Nat) : (lst ops D).size = ops.length := by
  have := orZ_size D (Array.replicate ops.length false)
  unfold orZ at this
  unfold lst
  rw [this]; simp
theorem lst_get (ops : List Oper) (D : List Nat) {j : Nat} {b : Bool} (hj : j < ops.length) : (lst ops D).getD j b = D.contains j := by
  have := orZ_get (b := b) D (Array.replicate ops.length false) j (by simpa using hj)
  unfold orZ at this
  unfold lst
  rw [this]
  simp [hj]
def ClosedZ (ops : List Oper) (Z : List Nat) (listed : Array Bool) : Prop := ∀ (j : Nat) (o : Oper), ops[j]? = some o → Z.contains j = false → listed.getD j false = true → ∀ e ∈ o.after, Region.binds .any e = true → listed.getD e.on false = true
variable {Q Q' : Exit → Act → World → Prop} {S S' : World → Prop}
theorem gate_ready (hg : Gate ops z Z D) {listed : Array Bool} (hsz : listed.size = ops.length) {i : Nat} (hi : Z.contains i = false) : i ∈ Region.ready .any ops.toArray listed ↔ i ∈ Region.ready .any ops.toArray (orZ listed Z) := by
  rw [mem_ready, mem_ready]
  constructor
  · rintro ⟨h1, o, ho, h2⟩
    have hlt : i < listed.size := by rw [hsz]; simpa using (Array.getElem?_eq_some_iff.1 ho).1
    refine ⟨by rw [orZ_get Z listed i hlt, h1, hi]; rfl, o, ho, fun e he hb => ?_⟩
    have hd := hg.deps i o (by simpa using ho) hi e he hb
    rw [orZ_get Z listed e.on (by omega), h2 e he hb]; rfl
  · rintro ⟨h1, o, ho, h2⟩
    have hlt : i < listed.size := by rw [hsz]; simpa using (Array.getElem?_eq_some_iff.1 ho).1
    rw [orZ_get Z listed i hlt, hi, Bool.or_false] at h1
    refine ⟨h1, o, ho, fun e he hb => ?_⟩
    have hd := hg.deps i o (by simpa using ho) hi e he hb
    have := h2 e he hb
    rwa [orZ_get Z listed e.on (by omega), hd.1, Bool.or_false] at this
theorem gate_only (hg : Gate ops z Z D) {listed : Array Bool} (hsz : listed.size = ops.length) (hZ : ∀ j, Z.contains j = true → listed.getD j false = false) (hD : ∀ j, D.contains j = true → j < ops.length → listed.getD j false = true) (hc : ClosedZ ops Z listed) {i : Nat} (hi : i ∈ Region.ready .any ops.toArray listed) (hiz : Z.contains i = true) :
    i = z ∧ ∀ j, j < ops.length → Z.contains j = false → listed.getD j false = true := by
  obtain ⟨h1, o, ho, h2⟩ := mem_ready.1 hi
  have ho' : ops[i]? = some o := by simpa using ho
  have hz : i = z := Classical.byContradiction fun hne => by
    obtain ⟨e, he, hb, hez⟩ := hg.others i o ho' hiz hne
    have := h2 e he hb
    rw [hZ e.on hez] at this
    cases this
  subst hz
  refine ⟨rfl, ?_⟩
  have key : ∀ d j, ops.length - j ≤ d → j < ops.length → Z.contains j = false → listed.getD j false = true := by
    intro d
    induction d with
    | zero => intro j hd hj; omega
    | succ d ih =>
      intro j hd hj hjz
      cases hdj : D.contains j with
      | true => exact hD j hdj hj
      | false =>
        obtain ⟨k, o', ho2, hk, e, he, hb, rfl⟩ := hg.all j hj hjz hdj
        have hklt : k < ops.length := (List.getElem?_eq_some_iff.1 ho2).1
        rcases hk with rfl | ⟨hk1, hk2⟩
        · rw [ho'] at ho2
          cases ho2
          exact h2 e he hb
        · exact hc k o' ho2 hk1 (ih k (by omega) hklt hk1) e he hb
  exact fun j hj hjz => key ops.length j (by omega) hj hjz
theorem orZ_set (i : Nat) : ∀ (Z : List Nat) (l : Array Bool), (orZ l Z).setIfInBounds i true = orZ (l.setIfInBounds i true) Z
  | [], l => rfl
  | j :: r, l => by
    have ih := orZ_set i r (l.setIfInBounds j true)
    unfold orZ at ih ⊢
    rw [List.foldl_cons, List.foldl_cons, ih]
    by_cases h : j = i
    · subst h; rfl
    · rw [Array.setIfInBounds_comm true true h]
theorem wpAnyH_more {md : Region.Mode} {opsA : Array Oper} : ∀ (fuel : Nat) (listed : Array Bool) (a : Act) (w : World), wpAnyH P md opsA Q S fuel listed a w → wpAnyH P md opsA Q S (fuel + 1) listed a w
  | 0, listed, a, w, h => ⟨fun _ => h.2, by rw [h.1]; simp⟩
  | fuel + 1, _, _, _, h => ⟨h.1, fun i hi => wpOp_mono (fun a' w' h' => ⟨h'.1, wpAnyH_more fuel _ a' w' h'.2⟩) (h.2 i hi)⟩
theorem wpAnyH_add {md : Region.Mode} {opsA : Array Oper} {listed : Array Bool} {a : Act} {w : World} {fuel : Nat} (h : wpAnyH P md opsA Q S fuel listed a w) : ∀ k, wpAnyH P md opsA Q S (k + fuel) listed a w
  | 0 => by rwa [Nat.zero_add]
  | k + 1 => by rw [show k + 1 + fuel = (k + fuel) + 1 by omega]; exact wpAnyH_more _ _ _ _ (wpAnyH_add h k)
theorem gate_end (hg : Gate ops z Z D) {listed : Array Bool} (hsz : listed.size = ops.length) (hr : Region.ready .any ops.toArray (orZ listed Z) = []) : ∀ k j, j < k → j < ops.length → Z.contains j = false → listed.getD j false = true := by
  intro k
  induction k with
  | zero => intro j hj; omega
  | succ k ih =>
    intro j hjk hj hjz
    cases hx : listed.getD j false with
    | true => rfl
    | false =>
      have : j ∈ Region.ready .any ops.toArray (orZ listed Z) := by
        rw [← gate_ready hg hsz hjz, mem_ready]
        have hj' : j < listed.size := hsz ▸ hj
        refine ⟨by simp [hj'] at hx ⊢; exact hx, ops[j], by simp [hj], fun e he hb => ?_⟩
        have hd := hg.deps j ops[j] (by simp [hj]) hjz e he hb
        exact ih e.on (by omega) (by omega) hd.1
      rw [hr] at this; cases this
theorem any_gate (hg : Gate ops z Z D) (hN : ∀ e a w, Q' e a w → e = .normal) (hSS : ∀ w, S' w → S w) {g : Nat}
    (hK : ∀ (listed : Array Bool) a w, listed.size = ops.length → (∀ j, j < ops.length → listed.getD j false = !Z.contains j) → Q' .normal a w → wpAnyH P .any ops.toArray Q S g listed a w) :
    ∀ (fuel : Nat) (listed : Array Bool) (a : Act) (w : World), listed.size = ops.length → (∀ j, Z.contains j = true → listed.getD j false = false) → (∀ j, D.contains j = true → j < ops.length → listed.getD j false = true) → ClosedZ ops Z listed →
    wpAnyH P .any ops.toArray Q' S' fuel (orZ listed Z) a w → wpAnyH P .any ops.toArray Q S (fuel + g) listed a w := by
  have fin : ∀ (listed : Array Bool) (a : Act) (w : World), listed.size = ops.length → (∀ j, Z.contains j = true → listed.getD j false = false) → Region.ready .any ops.toArray (orZ listed Z) = [] → Q' .normal a w → ∀ k, wpAnyH P .any ops.toArray Q S (k + g) listed a w := by
    intro listed a w hsz hZ hr hq k
    refine wpAnyH_add (hK listed a w hsz (fun j hj => ?_) hq) k
    cases hz : Z.contains j with
    | true => exact hZ j hz
    | false => exact gate_end hg hsz hr ops.length j hj hj hz
  intro fuel
  induction fuel with
  | zero => intro listed a w hsz hZ _ _ h; exact fin listed a w hsz hZ h.1 h.2 0
  | succ fuel ih =>
    intro listed a w hsz hZ hD hcl h
    by_cases hr : Region.ready .any ops.toArray (orZ listed Z) = []
    · exact fin listed a w hsz hZ hr (h.1 hr) _
    · obtain ⟨j, hj⟩ := List.exists_mem_of_ne_nil _ hr
      obtain ⟨hj1, oj, hoj, _⟩ := mem_ready.1 hj
      have hjlt : j < ops.length := by simpa using (Array.getElem?_eq_some_iff.1 hoj).1
      rw [orZ_get Z listed j (by omega), Bool.or_eq_false_iff] at hj1
      rw [show fuel + 1 + g = (fuel + g) + 1 by omega]
      refine ⟨fun h0 => ?_, fun i hi => ?_⟩
      · have := (gate_ready hg hsz hj1.2).2 hj
        rw [h0] at this; cases this
      · have hiz : Z.contains i = false := by
          cases hx : Z.contains i with
          | false => rfl
          | true =>
            have := getD_tf ((gate_only hg hsz hZ hD hcl hi hx).2 j hjlt hj1.2)
            rw [this] at hj1
            cases hj1.1
        have hiz2 : ∀ k, Z.contains k = true → i ≠ k := fun k hk e => by rw [e, hk] at hiz; cases hiz
        have hcl2 : ClosedZ ops Z (listed.setIfInBounds i true) := by
          intro k o ho hkz hk e he hb
          by_cases hki : k = i
          · subst hki
            obtain ⟨_, o', ho', hd'⟩ := mem_ready.1 hi
            rw [show ops.toArray[k]? = ops[k]? by simp, ho] at ho'; cases ho'
            exact getD_set_true (hd' e he hb)
          · rw [getD_set_ne false (fun h => hki h.symm)] at hk
            exact getD_set_true (hcl k o ho hkz hk e he hb)
        refine wpOp_only hN (fun a' w' h' => ⟨hSS _ h'.1, ?_⟩) (h.2 i ((gate_ready hg hsz hiz).1 hi))
        have h2 := h'.2
        rw [orZ_set] at h2
        refine ih _ a' w' (by simpa using hsz) (fun k hk => ?_) (fun k hk hkl => getD_set_true (hD k hk hkl)) hcl2 h2
        rw [getD_set_ne false (hiz2 k hk)]
        exact hZ k hk
end
section
variable {P : Program} {n : Nat} {ops : List Oper} {Q : Post} {f : Frm} {C S : World → Prop}
def gpost (P : Program) (n : Nat) (ops : List Oper) (Q : Post) (done : List Nat) (S : World → Prop) : Post := fun e f w => e = .normal ∧ DW P n ops Q done S f (fun u => u = w)
theorem At.gate {done : List Nat} (h : DW P n ops Q done S f C) : At (gpost P n ops Q done S) .normal f C := fun w hw => ⟨rfl, fun u e => e ▸ h w hw⟩
theorem DW.gate (z : Nat) (Z A : List Nat) (S' : World → Prop) {done : List Nat} (hB : gateB ops z Z done A = true) (hcl : ∀ w, S' w → S w)
    (hc : (done.all fun j => match ops[j]? with | some o => o.after.all fun e => !Region.binds .any e || done.contains e.on | none => false) = true)
    (h : DW P n ops (gpost P n ops Q (done ++ A) S) (done ++ Z) S' f C) : DW P n ops Q done S f C := by
  obtain ⟨hg, hda, hlt, hlen⟩ := gateB_sound hB
  intro w hw a ha
  have h1 := h w hw a ha
  rw [lst_orZ] at h1
  have e1 : ops.length - done.length = (ops.length - (done ++ Z).length) + (ops.length - (done ++ A).length) := by
    simp only [List.length_append] at hlen ⊢; omega
  rw [e1]
  refine any_gate (Q' := lift n (only fun f w => gpost P n ops Q (done ++ A) S .normal f w)) hg (fun e a w ⟨_, _, he, _⟩ => he) hcl (fun listed a w hsz hl hq => ?_) _ _ _ _ (lst_size _ _) (fun j hj => ?_) (fun j hj hjl => ?_) (fun j o ho hjz hj e he hb => ?_) h1
  · obtain ⟨f', hf', _, _, hd⟩ := hq
    have e2 : listed = lst ops (done ++ A) := by
      refine Array.ext (by rw [hsz, lst_size]) fun j h1 h2 => ?_
      have hj : j < ops.length := by omega
      have h3 := hl j hj
      have h4 := lst_get ops (done ++ A) (b := false) hj
      rw [hda j hj, ← h3] at h4
      simp only [Array.getD_eq_getD_getElem?, Array.getElem?_eq_getElem h1, Array.getElem?_eq_getElem h2, Option.getD_some] at h4
      exact h4.symm
    rw [e2]
    exact hd w rfl a hf'
  · rw [lst_get ops done (hg.zlt j hj)]
    have := hda j (hg.zlt j hj)
    rw [hj] at this
    cases hx : done.contains j with
    | false => rfl
    | true => rw [List.contains_append, hx] at this; cases this
  · rw [lst_get ops done hjl]; exact hj
  · have hjl : j < ops.length := (List.getElem?_eq_some_iff.1 ho).1
    rw [lst_get ops done hjl] at hj
    have h5 := List.all_eq_true.1 hc j (by simpa using hj)
    rw [ho] at h5
    have h6 := (Array.all_eq_true_iff_forall_mem.1 h5) e he
    simp only [hb, Bool.not_true, Bool.false_or] at h6
    rw [lst_get ops done (by have := (hg.deps j o ho hjz e he hb).2; omega)]
    exact h6
end
theorem CW_fact {P : Program} {n : Nat} {c : Code} {Q : Post} {f : Frm} {C : World → Prop} {φ : Prop} (h : ∀ w, C w → φ) (k : φ → CW P n c Q f C) : CW P n c Q f C := fun w hw => k (h w hw) w hw
section
variable {α : Type} {f : α → List Value} {n : Nat}
theorem flat_set (hf : ∀ x, (f x).length = n) : ∀ (l : List α) (x : α) (k : Nat), k < l.length → (l.set k x).flatMap f = (l.flatMap f).take (k * n) ++ f x ++ (l.flatMap f).drop (k * n + n)
  | y :: r, x, 0, _ => by
    have hy := hf y
    simp only [List.set_cons_zero, List.flatMap_cons, Nat.zero_mul, List.take_zero, List.nil_append, Nat.zero_add]
    rw [List.drop_append, List.drop_of_length_le (l := f y) (by omega), hy, Nat.sub_self]
    rfl
  | y :: r, x, k + 1, h => by
    have hy := hf y
    have ih := flat_set hf r x k (by simpa using h)
    simp only [List.set_cons_succ, List.flatMap_cons]
    have hk : (k + 1) * n = k * n + n := by rw [Nat.add_mul, Nat.one_mul]
    have e1 : (f y ++ r.flatMap f).take ((k + 1) * n) = f y ++ (r.flatMap f).take (k * n) := by
      rw [List.take_append, List.take_of_length_le (l := f y) (by rw [hy]; omega), hy, show (k + 1) * n - n = k * n by omega]
    have e2 : (f y ++ r.flatMap f).drop ((k + 1) * n + n) = (r.flatMap f).drop (k * n + n) := by
      rw [List.drop_append, List.drop_of_length_le (l := f y) (by rw [hy]; omega), hy, show (k + 1) * n + n - n = k * n + n by omega, List.nil_append]
    rw [ih, e1, e2]
    simp
theorem splice_rows (hf : ∀ x, (f x).length = n) (l : List α) (x : α) {k : Nat} (h : k < l.length) : splice (l.flatMap f) (k * n) (f x) = (l.set k x).flatMap f := by
  unfold splice
  rw [flat_set hf l x k h, hf x]
theorem rows_store {P : Program} {T E : TypeId} {m : Nat} (hs : Sz P T m) (hf : ∀ x, (f x).length = m) (h1 : ∀ x, (f x).all Value.oneCell' = true) {b o N c q : Nat} {l : List α} (x : α) {k : Nat} (hk : k < l.length) (hq : q = o + k * m) :
    Stores P T ⟨b, q, none⟩ (.agg (f x).toArray) (osl (.slice (some ⟨b, o, none⟩) N c) E m N (l.flatMap f)) (osl (.slice (some ⟨b, o, none⟩) N c) E m N ((l.set k x).flatMap f)) := by
  subst hq
  have st := Stores.osl (P := P) (T := T) (q := m) (b := b) (o := o) (i := k * m) (n := N) (c := c) (v := .agg (f x).toArray) (vs := f x) (xs := l.flatMap f) (E := E) (sz := m) hs rfl (h1 x) (hf x) (by
    rw [Go.Hb.rows_len hf, hf x]
    have : (k + 1) * m ≤ l.length * m := Nat.mul_le_mul_right _ hk
    rw [Nat.add_mul, Nat.one_mul] at this
    exact this)
  rwa [splice_rows hf l x hk] at st
theorem rows_all_one (h1 : ∀ x, (f x).all Value.oneCell' = true) : ∀ (l : List α), (l.flatMap f).all Value.oneCell' = true
  | [] => rfl
  | x :: r => by rw [List.flatMap_cons, List.all_append, h1 x, rows_all_one h1 r]; rfl
end
end Go.Hb

namespace Go.Proofs.Ytgblmkpfkcibiaa
open Go.Hb
attribute [local irreducible] LR CW At Ev thn blk finK noG again CallsTo DW QL dnext TW DP
set_option maxRecDepth 100000

structure Pln where
  R : List Int
  G : List Gat
structure PlA where
  ra : Option Addr
  rc : Nat
  ga : Option Addr
  gc : Nat
def Gat.cells (g : Gat) : List Value := [.int .i64 g.n, .int .i64 g.a, .int .i64 g.b]
theorem gat_len (g : Gat) : (Gat.cells g).length = 3 := rfl
abbrev gv (G : List Gat) : List Value := G.flatMap Gat.cells
def Pln.cells (p : Pln) (A : PlA) : List Value := [.slice A.ra p.R.length A.rc, .slice A.ga p.G.length A.gc]
def Pln.val (p : Pln) (A : PlA) : Value := .agg (p.cells A).toArray
structure PlR (w : World) (p : Pln) (A : PlA) : Prop where
  r : Rd w A.ra (iv p.R)
  g : Rd w A.ga (gv p.G)
abbrev i64P (c : Int) : Prop := -9223372036854775808 ≤ c ∧ c ≤ 9223372036854775807
structure PlI (p : Pln) : Prop where
  r : ∀ c ∈ p.R, i64P c
  rl : p.R.length * 8 ≤ 140737488351232
  gl : p.G.length * 24 ≤ 140737488351232
theorem pl_in {w : World} {p : Pln} {A : PlA} (h : PlR w p A) : St w NoF [rdA A.ga (gv p.G), rdA A.ra (iv p.R)] w := (St.rd1 h.r).addRd h.g (fun _ _ h => h)

theorem m61 (c : Int) (w : World) (hcr : i64P c) : CallsTo Try.prog 61 [.int .i64 c] w fun v w' => v = .bool (membersC c) ∧ Grew w w' := by
  refine go_in (n := 10) (St.refl _ NoF) Try.func61 rfl rfl ?_
  repeat'(first|refine kv' ?_|apply jJ|refine jE' ?_|refine jp' ?_|(apply jc;kernel_rfl)|refine kg' ?_|refine kG' ?_|refine kB' fun _=>?_|refine kA' fun _=>?_|refine kK' fun _=>?_|refine kU' ?_|(apply kq; (· exact rfl); (· intro w1 h1; exact CallsTo.q (show CallsTo Try.prog 87 [.int .i64 c] w1 _ from q61 c w1 hcr) h1))|((first|refine kR' ?_ ?_|refine kQ' ?_ ?_);all_goals(intro hc;try simp only[hcs]at hc;try(exfalso;first|contradiction|omega))))
  all_goals (
    (apply ret1; (· exact rfl); intro w' hS)
    refine ⟨congrArg Value.bool ?_, hS.toKeep⟩
    unfold membersC
    cases crewOk c <;> simp_all)
theorem m46 (p : Pln) (A : PlA) (w : World) (hr : PlR w p A) (hi : PlI p) : CallsTo Try.prog 46 [p.val A] w fun v w' => v = .bool (p.R.all membersC) ∧ Grew w w' := by
  refine go_in (n := 16) (pl_in hr) Try.func46 rfl rfl ?_
  have hrl := hi.rl
  repeat'(first|refine kv' ?_|apply jJ|refine jE' ?_|refine jp' ?_|(apply jc;kernel_rfl)|refine kg' ?_|refine kG' ?_|refine kB' fun _=>?_|refine kA' fun _=>?_|refine kK' fun _=>?_|refine kU' ?_|((first|refine kR' ?_ ?_|refine kQ' ?_ ?_);all_goals(intro hc;try simp only[hcs]at hc;try(exfalso;first|contradiction|omega))))
  apply CW.loop [2, 4, 8, 9, 10, 11, 12, 13, 14, 15] (fun i : Nat => i ≤ p.R.length ∧ (p.R.take i).all membersC = true) (fun i : Nat => [(8, Value.int .i64 (i : Int))]) (fun _ => St w NoF [rdA A.ra (iv p.R)]) (fun i => p.R.length - i)
  · exact fun w' hw' => ⟨0, ⟨by omega, rfl⟩, ⟨rfl, trivial⟩, hw'.sub subZ⟩
  rintro i g ⟨hil, hall⟩
  by_cases hlt : i < p.R.length
  · obtain ⟨ba, oa, hra⟩ := hr.r.form (fun e => by have := congrArg List.length e; simp only [iv_length, List.length_nil] at this; omega)
    rw [hra]
    have htk : (p.R.take (i + 1)).all membersC = membersC p.R[i] := by
      rw [List.take_add_one, List.getElem?_eq_getElem hlt, List.all_append, hall]; simp
    repeat'(first|refine kv' ?_|apply jJ|refine jE' ?_|refine jp' ?_|(apply jc;kernel_rfl)|refine kg' ?_|refine kG' ?_|refine kB' fun _=>?_|refine kA' fun _=>?_|refine kK' fun _=>?_|refine kU' ?_|(apply idxX;(iterate 2 exact rfl);(iterate 2(first|omega|(dsimp only;omega)));exact rfl)|(apply LR.ev; (· apply Ev.load_rd; (· exact rfl); (· repeat (first | exact mH _ _ | apply mT)); (· exact iv_at (i := i) (by simp) (by omega))); (· exact rfl))|(apply addX;(iterate 2 exact rfl);(iterate 2(first|omega|(dsimp only;omega)));exact rfl)|(apply kq; (· exact rfl); (· intro w1 h1; show CallsTo Try.prog 61 [.int .i64 p.R[i]] w1 _; exact CallsTo.q (m61 p.R[i] w1 (hi.r _ (List.getElem_mem hlt))) h1))|((first|refine kR' ?_ ?_|refine kQ' ?_ ?_);all_goals(intro hc;try simp only[hcs]at hc;try(exfalso;first|contradiction|omega))))
    · (apply ret1; (· exact rfl); intro w' hS)
      refine ⟨congrArg Value.bool ?_, hS.toKeep⟩
      rw [eq_comm, List.all_eq_false]
      exact ⟨p.R[i], List.getElem_mem hlt, by simp_all⟩
    · refine At.again (i + 1) ⟨by omega, by rw [htk]; assumption⟩ ?_ ⟨rfl, trivial⟩ (fun w' hw' => hw') (by omega)
      (repeat (first | exact Out.refl _ _ | exact Out.mix | (apply Out.upd; (· exact rfl)) | (apply Out.updL; (· exact rfl)) | (apply Out.mixs; (· exact rfl))))
  · have hie : i = p.R.length := by omega
    subst hie
    rw [List.take_length] at hall
    repeat'(first|refine kv' ?_|apply jJ|refine jE' ?_|refine jp' ?_|(apply jc;kernel_rfl)|refine kg' ?_|refine kG' ?_|refine kB' fun _=>?_|refine kA' fun _=>?_|refine kK' fun _=>?_|refine kU' ?_|((first|refine kR' ?_ ?_|refine kQ' ?_ ?_);all_goals(intro hc;try simp only[hcs]at hc;try(exfalso;first|contradiction|omega))))
    (apply ret1; (· exact rfl); intro w' hS)
    exact ⟨by rw [hall]; rfl, hS.toKeep⟩
theorem shl1 {k : Nat} (h : k ≤ 8) : IntKind.i64.wrap (1 * 2 ^ (min (k : Int).toNat IntKind.i64.bits)) = 2 ^ k := by
  rcases low9 h with rfl | rfl | rfl | rfl | rfl | rfl | rfl | rfl | rfl <;> decide
theorem shr1 (c : Int) {k : Nat} (h : k ≤ 8) : decide (andI .i64 (c.fdiv (2 ^ (min (k : Int).toNat IntKind.i64.bits))) 1 = 1) = tb c k := by
  have e : min (k : Int).toNat IntKind.i64.bits = k := by show min _ 64 = _; omega
  rw [e, and_one, tb_div c k h]
theorem splice_iv (l : List Int) (i : Nat) (x : Int) (h : i < l.length) : splice (iv l) i [.int .i64 x] = iv (l.set i x) := by
  unfold splice
  simp only [iv, List.length_cons, List.length_nil, List.map_set]
  rw [List.set_eq_take_append_cons_drop, if_pos (by simpa using h)]
  simp
theorem ps0_snoc (i : Nat) : ps0 (i + 1) = ps0 i ++ [2 ^ i] := by unfold ps0; rw [List.range_succ, List.map_append]; rfl
theorem ps0_len (i : Nat) : (ps0 i).length = i := by simp [ps0]
theorem psG_len (ps : List Int) (g : Gat) : (psG ps g).length = ps.length := by simp [psG]
def psI (ps : List Int) (g : Gat) (i : Nat) : List Int := (psG ps g).take i ++ ps.drop i
theorem psI_len (ps : List Int) (g : Gat) {i : Nat} (h : i ≤ ps.length) : (psI ps g i).length = ps.length := by
  unfold psI; rw [List.length_append, List.length_take, List.length_drop, psG_len]; omega
theorem psI_set (ps : List Int) (g : Gat) {i : Nat} (h : i < ps.length) : psI ps g (i + 1) = if tb (bothG ps g) i then (psI ps g i).set i (bothG ps g) else psI ps g i := by
  have hl : i < (psG ps g).length := by rw [psG_len]; exact h
  have hv : (psG ps g)[i] = if tb (bothG ps g) i then bothG ps g else ps.getD i 0 := by simp [psG]
  have hd : ps.getD i 0 = ps[i] := by rw [List.getD_eq_getElem?_getD, List.getElem?_eq_getElem h]; rfl
  unfold psI
  rw [List.take_add_one, List.getElem?_eq_getElem hl, hv, hd, List.drop_eq_getElem_cons h]
  have ht : ((psG ps g).take i).length = i := by rw [List.length_take]; omega
  split
  · rw [List.set_append_right _ _ (by omega), ht, Nat.sub_self, List.append_assoc]
    rfl
  · simp
theorem getD_nat (l : List Int) {i : Nat} (h : i < l.length) : l.getD i 0 = l[i] := by rw [List.getD_eq_getElem?_getD, List.getElem?_eq_getElem h]; rfl
theorem gw_bad {R : List Int} {g : Gat} {r : List Gat} {tw : Int} {ps : List Int} (h : ¬((0 ≤ g.a ∧ g.a < g.b ∧ g.b < R.length) ∧ hasC tw g.n = true)) : gwAll R (g :: r) tw ps = false := by
  unfold gwAll gwOk
  by_cases h1 : 0 ≤ g.a ∧ g.a < g.b ∧ g.b < R.length
  · have h2 : hasC tw g.n = false := by
      cases hx : hasC tw g.n with
      | false => rfl
      | true => exact (h ⟨h1, hx⟩).elim
    rw [h2]
    simp
  · rw [decide_eq_false h1]
    simp
theorem gw_bad2 {R : List Int} {g : Gat} {r : List Gat} {tw : Int} {ps : List Int} {i : Nat} (hi : i < R.length) (h : ¬(hasC (R.getD i 0) g.n = decide ((i : Int) = g.a ∨ (i : Int) = g.b))) : gwAll R (g :: r) tw ps = false := by
  unfold gwAll gwOk
  have : ((List.range R.length).all fun i => hasC (R.getD i 0) g.n == decide ((i : Int) = g.a ∨ (i : Int) = g.b)) = false := by
    rw [List.all_eq_false]
    exact ⟨i, List.mem_range.2 hi, by simpa using h⟩
  rw [this]
  simp
theorem gw_bad3 {R : List Int} {g : Gat} {r : List Gat} {tw : Int} {ps : List Int} (h : tb (ps.getD g.a.toNat 0) g.b.toNat = true) : gwAll R (g :: r) tw ps = false := by
  unfold gwAll gwOk
  rw [h]
  simp
set_option maxHeartbeats 4000000 in
theorem m47 (p : Pln) (A : PlA) (w : World) (hr : PlR w p A) (hi : PlI p) (hl1 : 1 ≤ p.R.length) (hl4 : p.R.length ≤ 4) (hm : p.R.all membersC = true) :
    CallsTo Try.prog 47 [p.val A] w fun v w' => v = .bool (gwAll p.R p.G (twF p.R).1 (ps0 p.R.length)) ∧ Grew w w' := by
  refine go_in (n := 143) (pl_in hr) Try.func47 rfl rfl ?_
  have hgl := hi.gl
  obtain ⟨ba, oa, hra⟩ := hr.r.form (fun e => by have := congrArg List.length e; simp only [iv_length, List.length_nil] at this; omega)
  rw [show p.val A = .agg [.slice A.ra p.R.length A.rc, .slice A.ga p.G.length A.gc].toArray from rfl, hra]
  repeat'(first|refine kv' ?_|apply jJ|refine jE' ?_|refine jp' ?_|(apply jc;kernel_rfl)|refine kg' ?_|refine kG' ?_|refine kB' fun _=>?_|refine kA' fun _=>?_|refine kK' fun _=>?_|refine kU' ?_|((first|refine kR' ?_ ?_|refine kQ' ?_ ?_);all_goals(intro hc;try simp only[hcs]at hc;try(exfalso;first|contradiction|omega))))
  rename_i b1
  apply CW.loop [3, 4, 6, 18, 19, 20, 21, 22, 23, 24, 25, 26, 27, 28, 29, 30] (fun i : Nat => i ≤ p.R.length) (fun i : Nat => [(3, Value.int .i64 ((p.R.take i).foldl twS (0, 0)).1), (4, .int .i64 ((p.R.take i).foldl twS (0, 0)).2), (18, .int .i64 (i : Int))])
    (fun _ => St w NoF [.own b1 (.cells [Value.slice (some ⟨ba, oa, none⟩) p.R.length A.rc, .slice A.ga p.G.length A.gc].toArray 25 (0, 0)), rdA A.ga (gv p.G), rdA (some ⟨ba, oa, none⟩) (iv p.R)]) (fun i => p.R.length - i)
  · exact fun w' hw' => ⟨0, by omega, ⟨rfl, rfl, rfl, trivial⟩, hw'⟩
  intro i g1 hil
  by_cases hlt : i < p.R.length
  · have htk : (p.R.take (i + 1)).foldl twS (0, 0) = twS ((p.R.take i).foldl twS (0, 0)) p.R[i] := by
      rw [List.take_add_one, List.getElem?_eq_getElem hlt, List.foldl_append]; rfl
    repeat'(first|refine kv' ?_|apply jJ|refine jE' ?_|refine jp' ?_|(apply jc;kernel_rfl)|refine kg' ?_|refine kG' ?_|refine kB' fun _=>?_|refine kA' fun _=>?_|refine kK' fun _=>?_|refine kU' ?_|(apply idxX;(iterate 2 exact rfl);(iterate 2(first|omega|(dsimp only;omega)));exact rfl)|(apply LR.ev; (· apply Ev.load_rd; (· exact rfl); (· repeat (first | exact mH _ _ | apply mT)); (· exact iv_at (i := i) (by simp) (by omega))); (· exact rfl))|(apply addX;(iterate 2 exact rfl);(iterate 2(first|omega|(dsimp only;omega)));exact rfl)|((first|refine kR' ?_ ?_|refine kQ' ?_ ?_);all_goals(intro hc;try simp only[hcs]at hc;try(exfalso;first|contradiction|omega))))
    refine At.again (i + 1) (by omega) ?_ ⟨?_, ?_, rfl, trivial⟩ (fun w' hw' => hw') (by omega)
    · (repeat (first | exact Out.refl _ _ | exact Out.mix | (apply Out.upd; (· exact rfl)) | (apply Out.updL; (· exact rfl)) | (apply Out.mixs; (· exact rfl))))
    · rw [htk]; rfl
    · rw [htk]; rfl
  have hie : i = p.R.length := by omega
  subst hie
  rw [List.take_length]
  show CW _ _ _ _ (updL (mix _ _ _) [(3, Value.int .i64 (twF p.R).1), (4, .int .i64 (twF p.R).2), (18, _)]) _
  repeat'(first|refine kv' ?_|apply jJ|refine jE' ?_|refine jp' ?_|(apply jc;kernel_rfl)|refine kg' ?_|refine kG' ?_|refine kB' fun _=>?_|refine kA' fun _=>?_|refine kK' fun _=>?_|refine kU' ?_|((first|refine kR' ?_ ?_|refine kQ' ?_ ?_);all_goals(intro hc;try simp only[hcs]at hc;try(exfalso;first|contradiction|omega))))
  apply CW.loop [7, 8, 34, 35, 36, 37, 38, 39, 40, 41, 42] (fun s : Cst => s.k ≤ p.R.length) (fun s => [(7, .slice s.a (ps0 s.k).length s.c), (34, .int .i64 (s.k : Int))])
    (fun s => St w NoF [ilK s.a s.c (ps0 s.k), .own b1 (.cells [Value.slice (some ⟨ba, oa, none⟩) p.R.length A.rc, .slice A.ga p.G.length A.gc].toArray 25 (0, 0)), rdA A.ga (gv p.G), rdA (some ⟨ba, oa, none⟩) (iv p.R)]) (fun s => p.R.length - s.k)
  · exact fun w' hw' => ⟨⟨0, none, 0⟩, by simp, ⟨rfl, rfl, trivial⟩, hw'.nilsl 3 1⟩
  rintro ⟨k, a2, c2⟩ g2 hk
  simp only at hk ⊢
  by_cases hlt : k < p.R.length
  · have hs8 := shl1 (k := k) (by omega)
    have hlk := ps0_len k
    have hsn := ps0_snoc k
    generalize ps0 k = L at hlk hsn ⊢
    repeat'(first|(apply Go.Hb.kK;(iterate 4 exact rfl);intro bs)|refine kv' ?_|apply jJ|refine jE' ?_|refine jp' ?_|(apply jc;kernel_rfl)|refine kg' ?_|refine kG' ?_|refine kB' fun _=>?_|refine kA' fun _=>?_|refine kK' fun _=>?_|refine kU' ?_|(apply addX;(iterate 2 exact rfl);(iterate 2(first|omega|(dsimp only;omega)));exact rfl)|(apply LR.append (xs := iv L) (news := [Value.int .i64 (IntKind.i64.wrap (1 * 2 ^ (min (k : Int).toNat IntKind.i64.bits)))]) (m := 1); (· exact rfl); (· exact rfl); (· intro a' c'; (repeat (first | exact sH _ _ _ | apply sT))); (· exact fun w' hw' => hw'.rd_of_blk (mH _ _)); (· exact fun hx => by cases hx); (· exact rfl); (· exact rfl); (· omega); (· unfold maxLen; omega); (· exact rfl); (intro a3 c3))|((first|refine kR' ?_ ?_|refine kQ' ?_ ?_);all_goals(intro hc;try simp only[hcs]at hc;try(exfalso;first|contradiction|omega))))
    refine At.again (⟨k + 1, a3, c3⟩ : Cst) (by simp only; omega) ?_ ⟨?_, rfl, trivial⟩ ?_ (by simp only; omega)
    · (repeat (first | exact Out.refl _ _ | exact Out.mix | (apply Out.upd; (· exact rfl)) | (apply Out.updL; (· exact rfl)) | (apply Out.mixs; (· exact rfl))))
    · simp only
      rw [hsn, List.length_append]
      rfl
    · intro w' hw'
      simp only
      rw [hsn, ← hs8]
      have e : ilK a3 c3 (L ++ [IntKind.i64.wrap (1 * 2 ^ (min (k : Int).toNat IntKind.i64.bits))]) = osl (.slice a3 (L.length + 1) c3) 3 1 (L.length + 1) (iv L ++ [Value.int .i64 (IntKind.i64.wrap (1 * 2 ^ (min (k : Int).toNat IntKind.i64.bits)))]) := by simp [ilK, iv]
      rw [e]
      exact hw'.sub subZ
  have hke : k = p.R.length := by omega
  subst hke
  repeat'(first|refine kv' ?_|apply jJ|refine jE' ?_|refine jp' ?_|(apply jc;kernel_rfl)|refine kg' ?_|refine kG' ?_|refine kB' fun _=>?_|refine kA' fun _=>?_|refine kK' fun _=>?_|refine kU' ?_|((first|refine kR' ?_ ?_|refine kQ' ?_ ?_);all_goals(intro hc;try simp only[hcs]at hc;try(exfalso;first|contradiction|omega))))
  have hp0 := ps0_len p.R.length
  refine CW_fact (φ := ∃ bx ox, a2 = some ⟨bx, ox, none⟩) (fun w1 hw1 => (ownsRow_rd (hw1.holds (ilK a2 c2 (ps0 p.R.length)) memZ)).form (fun e => by have := congrArg List.length e; simp only [iv_length, List.length_nil] at this; omega)) ?_
  rintro ⟨bx, ox, rfl⟩
  generalize hps : ps0 p.R.length = P0 at hp0 ⊢
  apply CW.loop [2, 3, 10, 11, 12, 13, 14, 46, 47, 48, 49, 50, 51, 52, 53, 54, 55, 56, 57, 58, 59, 60, 61, 62, 63, 64, 65, 66, 67, 68, 69, 70, 71, 72, 73, 74, 75, 76, 77, 78, 79, 80, 81, 82, 83, 84, 85, 86, 87, 88, 89, 90, 91, 92, 93, 94, 95, 96, 97, 98, 99, 100, 101, 102, 103, 104, 105, 106, 107, 108, 109, 110, 111, 112, 113, 114, 115, 116, 117, 118, 119, 120, 121, 122, 123, 124, 125, 126, 127, 128, 129, 130, 131, 132, 133, 134, 135, 136, 137, 138, 139, 140] (fun s : Nat × Int × List Int => s.1 ≤ p.G.length ∧ s.2.2.length = p.R.length ∧ gwAll p.R p.G (twF p.R).1 P0 = gwAll p.R (p.G.drop s.1) s.2.1 s.2.2) (fun s => [(3, Value.int .i64 s.2.1), (46, .int .i64 (s.1 : Int))])
    (fun s => St w NoF [osl (.slice (some ⟨bx, ox, none⟩) p.R.length c2) 3 1 p.R.length (iv s.2.2), .own b1 (.cells [Value.slice (some ⟨ba, oa, none⟩) p.R.length A.rc, .slice A.ga p.G.length A.gc].toArray 25 (0, 0)), rdA A.ga (gv p.G), rdA (some ⟨ba, oa, none⟩) (iv p.R)]) (fun s => p.G.length - s.1)
  · exact fun w' hw' => ⟨(0, (twF p.R).1, P0), ⟨Nat.zero_le _, hp0, rfl⟩, ⟨rfl, rfl, trivial⟩, by have h2 : St w NoF (osl (.slice (some ⟨bx, ox, none⟩) P0.length c2) 3 1 P0.length (iv P0) :: _) w' := hw'; rw [hp0] at h2; exact h2⟩
  rintro ⟨j, tw, ps⟩ g3 ⟨hj, hpl, hgw⟩
  simp only at hj hpl hgw ⊢
  rw [hgw]
  by_cases hjt : j < p.G.length
  · obtain ⟨bg, og, hga⟩ := hr.g.form (rows_ne gat_len (by omega) hjt)
    rw [hga]
    rw [List.drop_eq_getElem_cons hjt]
    obtain ⟨y, hy⟩ : ∃ y, p.G[j] = y := ⟨_, rfl⟩
    rw [hy]
    by_cases hok : (0 ≤ y.a ∧ y.a < y.b ∧ y.b < p.R.length) ∧ hasC tw y.n = true
    · obtain ⟨⟨ha0, hab, hbl⟩, hht⟩ := hok
      have hn8 : 1 ≤ y.n ∧ y.n ≤ 8 := by
        unfold hasC at hht
        rw [Bool.and_eq_true, decide_eq_true_eq] at hht
        omega
      obtain ⟨n, a, b, rfl⟩ : ∃ n a b : Nat, y = ⟨n, a, b⟩ := ⟨y.n.toNat, y.a.toNat, y.b.toNat, by
        obtain ⟨yn, ya, yb⟩ := y
        simp only at *
        rw [Int.toNat_of_nonneg (by omega), Int.toNat_of_nonneg (by omega), Int.toNat_of_nonneg (by omega)]⟩
      simp only at ha0 hab hbl hht hn8
      repeat'(first|(refine kA' fun bg2 => ?_)|refine kv' ?_|apply jJ|refine jE' ?_|refine jp' ?_|(apply jc;kernel_rfl)|refine kg' ?_|refine kG' ?_|refine kB' fun _=>?_|refine kA' fun _=>?_|refine kK' fun _=>?_|refine kU' ?_|(apply idxX;(iterate 2 exact rfl);(iterate 2(first|omega|(dsimp only;omega)));exact rfl)|(apply LR.ev; (· apply Ev.load_agg_at (cs := [Value.int .i64 (n : Int), .int .i64 (a : Int), .int .i64 (b : Int)]); (· exact rfl); (· exact rfl); (· intro w' hw'; have h9 := rd_row (f := Gat.cells) (l := p.G) (i := j) (q := (j : Int).toNat * 3) gat_len (hw'.rd_of memZ) hjt (by simp); rw [hy] at h9; exact h9)); (· exact rfl))|(apply kq; (· exact rfl); (· intro w1 h1; have hq := CallsTo.q (show CallsTo Try.prog 52 [.int .i64 tw, .int .i64 n] w1 _ from q23 tw n w1) h1; rw [hht] at hq; exact hq))|((first|refine kR' ?_ ?_|refine kQ' ?_ ?_);all_goals(intro hc;try simp only[hcs]at hc;try(exfalso;first|contradiction|omega))))
      apply CW.loop [2, 11, 12, 78, 79, 80, 81, 82, 83, 84, 85, 86, 87, 88, 89, 90, 91, 92, 93, 94, 95, 96, 97, 98] (fun i : Nat => i ≤ p.R.length ∧ ∀ k, k < i → hasC (p.R.getD k 0) n = decide ((k : Int) = a ∨ (k : Int) = b)) (fun i => [(78, .int .i64 (i : Int))])
        (fun _ => St w NoF [.own bg2 (.cells [Value.int .i64 n, .int .i64 a, .int .i64 b].toArray 34 (0, 0)), osl (.slice (some ⟨bx, ox, none⟩) p.R.length c2) 3 1 p.R.length (iv ps), .own b1 (.cells [Value.slice (some ⟨ba, oa, none⟩) p.R.length A.rc, .slice (some ⟨bg, og, none⟩) p.G.length A.gc].toArray 25 (0, 0)), rdA (some ⟨bg, og, none⟩) (gv p.G), rdA (some ⟨ba, oa, none⟩) (iv p.R)]) (fun i => p.R.length - i)
      · exact fun w' hw' => ⟨0, ⟨by omega, fun k hk => by omega⟩, ⟨rfl, trivial⟩, hw'⟩
      rintro i g4 ⟨hil, hev⟩
      by_cases hlt : i < p.R.length
      · repeat'(first|(apply CW.reg_heldC)|refine kv' ?_|apply jJ|refine jE' ?_|refine jp' ?_|(apply jc;kernel_rfl)|refine kg' ?_|refine kG' ?_|refine kB' fun _=>?_|refine kA' fun _=>?_|refine kK' fun _=>?_|refine kU' ?_|(apply idxX;(iterate 2 exact rfl);(iterate 2(first|omega|(dsimp only;omega)));exact rfl)|(apply LR.ev; (· apply Ev.load_rd; (· exact rfl); (· repeat (first | exact mH _ _ | apply mT)); (· exact iv_at (i := i) (by simp) (by omega))); (· exact rfl))|((first|refine kR' ?_ ?_|refine kQ' ?_ ?_);all_goals(intro hc;try simp only[hcs]at hc;try(exfalso;first|contradiction|omega))))
        all_goals (
          apply DW.quiet [0, 1, 2, 4, 5, 6, 7]
          · decide +kernel
          · first | exact fun _ h => h | exact fun _ h => St.sub h subZ
          repeat'(first|refine yv' ?_|refine uv' ?_|refine un' ?_|(refine us' ?_ ?_;all_goals(intro hc;try simp only[hcs]at hc;try(exfalso;first|contradiction|omega)))|apply QL.nil)
          all_goals (show DW _ _ _ _ _ _ _ _))
        all_goals (
          apply DW.loud 3
          · exact rfl
          · decide +kernel
          repeat'(first|refine kg' ?_|refine kG' ?_|apply kM|refine kv' ?_|refine kK' fun _=>?_|refine kU' ?_|refine kB' fun _=>?_|refine kA' fun _=>?_|(apply kq; (· exact rfl); (· intro w1 h1; show CallsTo Try.prog 52 [.int .i64 p.R[i], .int .i64 n] w1 _; exact CallsTo.q (q23 p.R[i] n w1) h1)))
          all_goals (refine At.stage_same (fun _ h => St.sub h subZ) ?_))
        all_goals (
          apply DW.quiet [8, 9, 10, 11, 12, 13, 14]
          · decide +kernel
          · first | exact fun _ h => h | exact fun _ h => St.sub h subZ
          repeat'(first|refine yv' ?_|refine uv' ?_|refine un' ?_|(refine us' ?_ ?_;all_goals(intro hc;try simp only[hcs]at hc;try(exfalso;first|contradiction|omega)))|apply QL.nil)
          all_goals (show DW _ _ _ _ _ _ _ _))
        all_goals (first | (apply DW.done_thn; (· decide +kernel)) | (apply DW.done; (· decide +kernel)))
        repeat'(first|refine kv' ?_|apply jJ|refine jE' ?_|refine jp' ?_|(apply jc;kernel_rfl)|refine kg' ?_|refine kG' ?_|refine kB' fun _=>?_|refine kA' fun _=>?_|refine kK' fun _=>?_|refine kU' ?_|(apply addX;(iterate 2 exact rfl);(iterate 2(first|omega|(dsimp only;omega)));exact rfl)|((first|refine kR' ?_ ?_|refine kQ' ?_ ?_);all_goals(intro hc;try simp only[hcs]at hc;try(exfalso;first|contradiction|omega))))
        all_goals (first
          | ((apply ret1; (· exact rfl); intro w' hS)
             have hne : ¬ (hasC p.R[i] (n : Int) = decide ((i : Int) = a ∨ (i : Int) = b)) := by clear hev hgw hht hS hm; intro e; simp_all
             rw [gw_bad2 hlt (by rw [getD_nat _ hlt]; exact hne)]
             exact ⟨rfl, hS.toKeep⟩)
          | (have hye : hasC p.R[i] (n : Int) = decide ((i : Int) = a ∨ (i : Int) = b) := by clear hev hgw hht hm; simp_all
             refine At.again (i + 1) ⟨by omega, fun k hk => ?_⟩ ?_ ⟨rfl, trivial⟩ (fun w' hw' => hw') (by omega)
             · by_cases hki : k = i
               · subst hki; rw [getD_nat _ hlt]; exact hye
               · exact hev k (by omega)
             · (repeat (first | exact Out.refl _ _ | exact Out.mix | (apply Out.upd; (· exact rfl)) | (apply Out.updL; (· exact rfl)) | (apply Out.mixs; (· exact rfl))))
             ))
      have hie : i = p.R.length := by omega
      subst hie
      have hs1 := shl1 (k := n) (by omega)
      have hst := shr1 (ps.getD a 0) (k := b) (by omega)
      rw [getD_nat _ (by omega)] at hst
      repeat'(first|(apply CW.reg_heldC)|refine kv' ?_|apply jJ|refine jE' ?_|refine jp' ?_|(apply jc;kernel_rfl)|refine kg' ?_|refine kG' ?_|refine kB' fun _=>?_|refine kA' fun _=>?_|refine kK' fun _=>?_|refine kU' ?_|((first|refine kR' ?_ ?_|refine kQ' ?_ ?_);all_goals(intro hc;try simp only[hcs]at hc;try(exfalso;first|contradiction|omega))))
      all_goals (
        apply DW.quiet [0, 1, 2, 3, 4, 5, 6, 7, 8, 9]
        · decide +kernel
        · first | exact fun _ h => h | exact fun _ h => St.sub h subZ
        repeat'(first|refine yv' ?_|(apply QL.ev; (· exact rfl); (· first | (apply Ev.indexAddr; (· exact rfl); (· exact rfl); (· omega); (· omega)) | (apply Ev.load_osl; (· exact rfl); (· (repeat (first | exact mH _ _ | apply mT))); (· exact iv_at (l := ps) (i := a) (by simp) (by omega)))); (· exact rfl))|refine uv' ?_|refine un' ?_|(refine us' ?_ ?_;all_goals(intro hc;try simp only[hcs]at hc;try(exfalso;first|contradiction|omega)))|apply QL.nil)
        all_goals (show DW _ _ _ _ _ _ _ _))
      all_goals (first | (apply DW.done_thn; (· decide +kernel)) | (apply DW.done; (· decide +kernel)))
      rw [hst]
      repeat'(first|refine kv' ?_|apply jJ|refine jE' ?_|refine jp' ?_|(apply jc;kernel_rfl)|refine kg' ?_|refine kG' ?_|refine kB' fun _=>?_|refine kA' fun _=>?_|refine kK' fun _=>?_|refine kU' ?_|(apply idxX;(iterate 2 exact rfl);(iterate 2(first|omega|(dsimp only;omega)));exact rfl)|(apply LR.ev; (· apply Ev.load_osl; (· exact rfl); (· repeat (first | exact mH _ _ | apply mT)); (· first | (refine iv_at (l := ps) (i := a) ?_ ?_; (· simp; done); (· omega)) | (refine iv_at (l := ps) (i := b) ?_ ?_; (· simp; done); (· omega)))); (· exact rfl))|((first|refine kR' ?_ ?_|refine kQ' ?_ ?_);all_goals(intro hc;try simp only[hcs]at hc;try(exfalso;first|contradiction|omega))))
      · (apply ret1; (· exact rfl); intro w' hS)
        rw [gw_bad3 (by show tb (ps.getD (a : Int).toNat 0) (b : Int).toNat = true; rw [Int.toNat_natCast, Int.toNat_natCast, getD_nat _ (by omega)]; assumption)]
        exact ⟨rfl, hS.toKeep⟩
      have htb : tb ps[a] b = false := by assumption
      obtain ⟨gg, hgg⟩ : ∃ gg : Gat, gg = ⟨n, a, b⟩ := ⟨_, rfl⟩
      have hbo : orI .i64 ps[a] ps[b] = bothG ps gg := by
        rw [hgg]
        unfold bothG
        show _ = orI .i64 (ps.getD (a : Int).toNat 0) (ps.getD (b : Int).toNat 0)
        rw [Int.toNat_natCast, Int.toNat_natCast, getD_nat _ (by omega), getD_nat _ (by omega)]
      rw [hbo]
      repeat'(first|refine kv' ?_|apply jJ|refine jE' ?_|refine jp' ?_|(apply jc;kernel_rfl)|refine kg' ?_|refine kG' ?_|refine kB' fun _=>?_|refine kA' fun _=>?_|refine kK' fun _=>?_|refine kU' ?_|((first|refine kR' ?_ ?_|refine kQ' ?_ ?_);all_goals(intro hc;try simp only[hcs]at hc;try(exfalso;first|contradiction|omega))))
      apply CW.loop [14, 127, 128, 129, 130, 131, 132, 133, 134, 135, 136, 137, 138, 139] (fun i : Nat => i ≤ p.R.length) (fun i => [(127, .int .i64 (i : Int))])
        (fun i => St w NoF [.own bg2 (.cells [Value.int .i64 n, .int .i64 a, .int .i64 b].toArray 34 (0, 0)), osl (.slice (some ⟨bx, ox, none⟩) p.R.length c2) 3 1 p.R.length (iv (psI ps gg i)), .own b1 (.cells [Value.slice (some ⟨ba, oa, none⟩) p.R.length A.rc, .slice (some ⟨bg, og, none⟩) p.G.length A.gc].toArray 25 (0, 0)), rdA (some ⟨bg, og, none⟩) (gv p.G), rdA (some ⟨ba, oa, none⟩) (iv p.R)]) (fun i => p.R.length - i)
      · exact fun w' hw' => ⟨0, by omega, ⟨rfl, trivial⟩, by rw [show psI ps gg 0 = ps by unfold psI; simp]; exact hw'⟩
      rintro i g5 hil
      by_cases hlt : i < p.R.length
      · have hsi := shr1 (bothG ps gg) (k := i) (by omega)
        have hset := psI_set ps gg (i := i) (by omega)
        have hpn := psI_len ps gg (i := i) (by omega)
        have hsi2 := decide_eq_true_iff (p := andI .i64 ((bothG ps gg).fdiv (2 ^ (min (i : Int).toNat IntKind.i64.bits))) 1 = 1)
        rw [hsi] at hsi2
        repeat'(first|refine kv' ?_|apply jJ|refine jE' ?_|refine jp' ?_|(apply jc;kernel_rfl)|refine kg' ?_|refine kG' ?_|refine kB' fun _=>?_|refine kA' fun _=>?_|refine kK' fun _=>?_|refine kU' ?_|(apply idxX;(iterate 2 exact rfl);(iterate 2(first|omega|(dsimp only;omega)));exact rfl)|((first|refine kR' ?_ ?_|refine kQ' ?_ ?_);all_goals(intro hc;try simp only[hcs]at hc;try(exfalso;first|contradiction|omega))))
        · have htt : tb (bothG ps gg) i = true := hsi2.2 (by assumption)
          rw [htt, if_pos rfl] at hset
          refine LR.store_obj (v := .int .i64 (bothG ps gg)) (z' := osl (.slice (some ⟨bx, ox, none⟩) p.R.length c2) 3 1 p.R.length (iv ((psI ps gg i).set i (bothG ps gg)))) rfl rfl (Sel.tail _ (Sel.head _ _ _)) rfl ?_ (osl.dep _ _ _ _ _) ?_
          · have st := Stores.osl (P := Try.prog) (T := 3) (q := 1) (b := bx) (o := ox) (i := (i : Int).toNat * 1) (n := p.R.length) (c := c2) (v := .int .i64 (bothG ps gg)) (vs := [.int .i64 (bothG ps gg)]) (xs := iv (psI ps gg i)) (E := 3) (sz := 1) inferInstance rfl rfl rfl (by simp; omega)
            rw [show (i : Int).toNat * 1 = i by omega] at st ⊢
            rwa [splice_iv _ _ _ (by omega)] at st
          repeat'(first|refine kv' ?_|apply jJ|refine jE' ?_|refine jp' ?_|(apply jc;kernel_rfl)|refine kg' ?_|refine kG' ?_|refine kB' fun _=>?_|refine kA' fun _=>?_|refine kK' fun _=>?_|refine kU' ?_|(apply addX;(iterate 2 exact rfl);(iterate 2(first|omega|(dsimp only;omega)));exact rfl)|((first|refine kR' ?_ ?_|refine kQ' ?_ ?_);all_goals(intro hc;try simp only[hcs]at hc;try(exfalso;first|contradiction|omega))))
          refine At.again (i + 1) (by omega) ?_ ⟨rfl, trivial⟩ (fun w' hw' => ?_) (by omega)
          · (repeat (first | exact Out.refl _ _ | exact Out.mix | (apply Out.upd; (· exact rfl)) | (apply Out.updL; (· exact rfl)) | (apply Out.mixs; (· exact rfl))))
          · rw [hset]; exact hw'
        · have htt : tb (bothG ps gg) i = false := by
            cases hx : tb (bothG ps gg) i with
            | false => rfl
            | true => exact absurd (hsi2.1 hx) (by assumption)
          rw [htt, if_neg (by simp)] at hset
          repeat'(first|refine kv' ?_|apply jJ|refine jE' ?_|refine jp' ?_|(apply jc;kernel_rfl)|refine kg' ?_|refine kG' ?_|refine kB' fun _=>?_|refine kA' fun _=>?_|refine kK' fun _=>?_|refine kU' ?_|(apply addX;(iterate 2 exact rfl);(iterate 2(first|omega|(dsimp only;omega)));exact rfl)|((first|refine kR' ?_ ?_|refine kQ' ?_ ?_);all_goals(intro hc;try simp only[hcs]at hc;try(exfalso;first|contradiction|omega))))
          refine At.again (i + 1) (by omega) ?_ ⟨rfl, trivial⟩ (fun w' hw' => ?_) (by omega)
          · (repeat (first | exact Out.refl _ _ | exact Out.mix | (apply Out.upd; (· exact rfl)) | (apply Out.updL; (· exact rfl)) | (apply Out.mixs; (· exact rfl))))
          · rw [hset]; exact hw'
      have hie : i = p.R.length := by omega
      subst hie
      repeat'(first|refine kv' ?_|apply jJ|refine jE' ?_|refine jp' ?_|(apply jc;kernel_rfl)|refine kg' ?_|refine kG' ?_|refine kB' fun _=>?_|refine kA' fun _=>?_|refine kK' fun _=>?_|refine kU' ?_|(apply addX;(iterate 2 exact rfl);(iterate 2(first|omega|(dsimp only;omega)));exact rfl)|((first|refine kR' ?_ ?_|refine kQ' ?_ ?_);all_goals(intro hc;try simp only[hcs]at hc;try(exfalso;first|contradiction|omega))))
      refine At.again (j + 1, twG tw gg, psG ps gg) ⟨by show j + 1 ≤ _; omega, by show (psG ps gg).length = _; rw [psG_len]; exact hpl, ?_⟩ ?_ ⟨?_, rfl, trivial⟩ (fun w' hw' => ?_) (by show p.G.length - (j + 1) < p.G.length - j; omega)
      · rw [← hgg]
        show (gwOk p.R tw ps gg && _) = _
        have hok : gwOk p.R tw ps gg = true := by
          unfold gwOk
          rw [hgg]
          have e1 : ((List.range p.R.length).all fun i => hasC (p.R.getD i 0) n == decide ((i : Int) = a ∨ (i : Int) = b)) = true := by
            rw [List.all_eq_true]
            intro k hk
            rw [beq_iff_eq]
            exact hev k (List.mem_range.1 hk)
          show (decide (0 ≤ (a : Int) ∧ (a : Int) < b ∧ (b : Int) < p.R.length) && (hasC tw n && ((List.range p.R.length).all fun i => hasC (p.R.getD i 0) n == decide ((i : Int) = a ∨ (i : Int) = b)) && !tb (ps.getD (a : Int).toNat 0) (b : Int).toNat)) = true
          rw [e1, hht, decide_eq_true ⟨ha0, hab, hbl⟩, Int.toNat_natCast, Int.toNat_natCast, getD_nat _ (by omega), htb]
          rfl
        rw [hok, Bool.true_and]
      · (repeat (first | exact Out.refl _ _ | exact Out.mix | (apply Out.upd; (· exact rfl)) | (apply Out.updL; (· exact rfl)) | (apply Out.mixs; (· exact rfl))))
      · show Value.int .i64 _ = Value.int .i64 (twG tw gg)
        unfold twG
        rw [hgg]
        show Value.int .i64 (andNotI .i64 tw (IntKind.i64.wrap (1 * 2 ^ (min (n : Int).toNat IntKind.i64.bits)))) = Value.int .i64 (andNotI .i64 tw (2 ^ (n : Int).toNat))
        rw [hs1, Int.toNat_natCast]
      · have e : psI ps gg p.R.length = psG ps gg := by
          unfold psI
          rw [← hpl, List.drop_length, List.append_nil, ← psG_len ps gg, List.take_length]
        rw [e] at hw'
        exact hw'.sub subZ
    · repeat'(first|refine kv' ?_|apply jJ|refine jE' ?_|refine jp' ?_|(apply jc;kernel_rfl)|refine kg' ?_|refine kG' ?_|refine kB' fun _=>?_|refine kA' fun _=>?_|refine kK' fun _=>?_|refine kU' ?_|(apply idxX;(iterate 2 exact rfl);(iterate 2(first|omega|(dsimp only;omega)));exact rfl)|(apply LR.ev; (· apply Ev.load_agg_at (cs := [Value.int .i64 y.n, .int .i64 y.a, .int .i64 y.b]); (· exact rfl); (· exact rfl); (· intro w' hw'; have h9 := rd_row (f := Gat.cells) (l := p.G) (i := j) (q := (j : Int).toNat * 3) gat_len (hw'.rd_of memZ) hjt (by simp); rw [hy] at h9; exact h9)); (· exact rfl))|(apply kq; (· exact rfl); (· intro w1 h1; exact CallsTo.q (show CallsTo Try.prog 52 [.int .i64 tw, .int .i64 y.n] w1 _ from q23 tw y.n w1) h1))|((first|refine kR' ?_ ?_|refine kQ' ?_ ?_);all_goals(intro hc;try simp only[hcs]at hc;try(exfalso;first|contradiction|omega))))
      all_goals (first
        | (exact (hok ⟨⟨by omega, by omega, by omega⟩, by assumption⟩).elim)
        | ((apply ret1; (· exact rfl); intro w' hS)
           rw [gw_bad hok]
           exact ⟨rfl, hS.toKeep⟩))
  · have hje : j = p.G.length := by omega
    subst hje
    rw [List.drop_length]
    repeat'(first|refine kv' ?_|apply jJ|refine jE' ?_|refine jp' ?_|(apply jc;kernel_rfl)|refine kg' ?_|refine kG' ?_|refine kB' fun _=>?_|refine kA' fun _=>?_|refine kK' fun _=>?_|refine kU' ?_|((first|refine kR' ?_ ?_|refine kQ' ?_ ?_);all_goals(intro hc;try simp only[hcs]at hc;try(exfalso;first|contradiction|omega))))
    (apply ret1; (· exact rfl); intro w' hS)
    exact ⟨rfl, hS.toKeep⟩
theorem m13 (p : Pln) (A : PlA) (w : World) (hr : PlR w p A) (hi : PlI p) : CallsTo Try.prog 13 [p.val A] w fun v w' => v = .int .i64 (if chkP p.R p.G then 0 else 230) ∧ Grew w w' := by
  refine go_in (n := 23) (pl_in hr) Try.func13 rfl rfl ?_
  have hrl := hi.rl
  unfold chkP
  by_cases hl : 1 ≤ p.R.length ∧ p.R.length ≤ 4
  · rw [decide_eq_true hl, Bool.true_and]
    cases hm : p.R.all membersC with
    | false =>
      repeat'(first|refine kv' ?_|apply jJ|refine jE' ?_|refine jp' ?_|(apply jc;kernel_rfl)|refine kg' ?_|refine kG' ?_|refine kB' fun _=>?_|refine kA' fun _=>?_|refine kK' fun _=>?_|refine kU' ?_|(apply kq; (· exact rfl); (· intro w1 h1; have hq := CallsTo.q (show CallsTo Try.prog 46 [p.val A] w1 _ from m46 p A w1 ⟨h1.rd_of memZ, h1.rd_of memZ⟩ hi) h1; rw [hm] at hq; exact hq))|((first|refine kR' ?_ ?_|refine kQ' ?_ ?_);all_goals(intro hc;try simp only[hcs]at hc;try(exfalso;first|contradiction|omega))))
      (apply ret1; (· exact rfl); intro w' hS)
      exact ⟨rfl, hS.toKeep⟩
    | true =>
      rw [Bool.true_and]
      repeat'(first|refine kv' ?_|apply jJ|refine jE' ?_|refine jp' ?_|(apply jc;kernel_rfl)|refine kg' ?_|refine kG' ?_|refine kB' fun _=>?_|refine kA' fun _=>?_|refine kK' fun _=>?_|refine kU' ?_|(apply kq; (· exact rfl); (· intro w1 h1; first | (have hq := CallsTo.q (show CallsTo Try.prog 46 [p.val A] w1 _ from m46 p A w1 ⟨h1.rd_of memZ, h1.rd_of memZ⟩ hi) h1; rw [hm] at hq; exact hq) | exact CallsTo.q (show CallsTo Try.prog 47 [p.val A] w1 _ from m47 p A w1 ⟨h1.rd_of memZ, h1.rd_of memZ⟩ hi hl.1 hl.2 hm) h1))|((first|refine kR' ?_ ?_|refine kQ' ?_ ?_);all_goals(intro hc;try simp only[hcs]at hc;try(exfalso;first|contradiction|omega))))
      all_goals (
        (apply ret1; (· exact rfl); intro w' hS)
        refine ⟨congrArg (Value.int .i64) ?_, hS.toKeep⟩
        simp_all)
  · rw [decide_eq_false hl, Bool.false_and, if_neg (by simp)]
    repeat'(first|refine kv' ?_|apply jJ|refine jE' ?_|refine jp' ?_|(apply jc;kernel_rfl)|refine kg' ?_|refine kG' ?_|refine kB' fun _=>?_|refine kA' fun _=>?_|refine kK' fun _=>?_|refine kU' ?_|(apply kq; (· exact rfl); (· intro w1 h1; exact CallsTo.q (show CallsTo Try.prog 46 [p.val A] w1 _ from m46 p A w1 ⟨h1.rd_of memZ, h1.rd_of memZ⟩ hi) h1))|((first|refine kR' ?_ ?_|refine kQ' ?_ ?_);all_goals(intro hc;try simp only[hcs]at hc;try(exfalso;first|contradiction|omega))))
    all_goals (
      (apply ret1; (· exact rfl); intro w' hS)
      exact ⟨rfl, hS.toKeep⟩)
end Go.Proofs.Ytgblmkpfkcibiaa

namespace Go.Hb
section
variable {α : Type} {f : α → Asrt} {w0 w : World} {F : Nat → Prop} {R : List Asrt} {x : α} {l : List α}
end
end Go.Hb

namespace Go.Hb
section
variable {w0 w : World} {F : Nat → Prop} {L L' : List Asrt}
def ownsAt (w : World) (E : TypeId) (sz : Nat) (v : Value) (n : Nat) (xs : List Value) : Prop :=
  xs.length = n * sz ∧ ((v = .slice none 0 0 ∧ n = 0) ∨
   ∃ g o cap cur, v = .slice (some ⟨g, o, none⟩) n cap ∧ w.heap[g]? = some (.cells cur E (0, 0)) ∧ n ≤ cap ∧ cap ≤ maxLen ∧ o + cap * sz ≤ cur.size ∧ (cur.toList.drop o).take (n * sz) = xs)
def odl (v : Value) (E : TypeId) (sz n : Nat) (xs : List Value) : Asrt := .ex (fun k => v.ownBlock = some k) (fun w => ownsAt w E sz v n xs)
theorem odl.dep (v : Value) (E : TypeId) (sz n : Nat) (xs : List Value) : (odl v E sz n xs).dep := by
  intro w w' hk h
  refine ⟨h.1, ?_⟩
  rcases h.2 with hn | ⟨g, o, cap, cur, rfl, hg, r⟩
  · exact .inl hn
  · refine .inr ⟨g, o, cap, cur, rfl, ?_, r⟩
    rw [hk g rfl]; exact hg
end
section
variable {P : Program} {f : Frm} {T T' : TypeId} {s x y : Operand} {v : Value} {w0 : World} {F : Nat → Prop} {L : List Asrt} {C : World → Prop}
variable {n : Nat} {ops rest : List Oper} {Q : Post} {p : String} {af : Array Edge} {d : Nat}
end
section
variable {α : Type} {f : α → Asrt} {w0 w : World} {F : Nat → Prop} {R : List Asrt} {x : α} {l r : List α}
end
theorem splice_take {D vs : List Value} {i N : Nat} (h : i + vs.length ≤ N) (hN : N ≤ D.length) : (splice D i vs).take N = splice (D.take N) i vs := by
  have e2 : splice D i vs = splice (D.take N) i vs ++ D.drop N := by
    have e3 : D = D.take N ++ D.drop N := (List.take_append_drop N D).symm
    have hl : (D.take N).length = N := by simp; omega
    conv => lhs; rw [e3]
    unfold splice
    rw [List.take_append_of_le_length (by omega), List.drop_append_of_le_length (by omega)]
    simp
  have e4 : (splice (D.take N) i vs).length = N := by simp [splice]; omega
  rw [e2, List.take_append_of_le_length (by omega), List.take_of_length_le (by omega)]
theorem splice_drop {D vs : List Value} {o i : Nat} (h : o + i ≤ D.length) : (splice D (o + i) vs).drop o = splice (D.drop o) i vs := by
  unfold splice
  rw [List.append_assoc, List.drop_append, List.drop_take, List.length_take, show o - min (o + i) D.length = 0 by omega, List.drop_zero, show o + i - o = i by omega, List.drop_drop, List.append_assoc, Nat.add_assoc]
theorem Stores.odl {P : Program} {T : TypeId} {q b o i n c : Nat} {v : Value} {vs xs : List Value} {E : TypeId} {sz : Nat} (h : Sz P T q) (hv : v.cells = vs.toArray) (h1 : vs.all Value.oneCell' = true) (hm : vs.length = q) (hb : i + vs.length ≤ xs.length) :
    Stores P T ⟨b, o + i, none⟩ v (odl (.slice (some ⟨b, o, none⟩) n c) E sz n xs) (odl (.slice (some ⟨b, o, none⟩) n c) E sz n (splice xs i vs)) := by
  intro w hw
  have hw' : ownsAt w E sz (.slice (some ⟨b, o, none⟩) n c) n xs := hw
  obtain ⟨hl, hr⟩ := hw'
  rcases hr with ⟨he, _⟩ | ⟨g, o', cap, cur, he, hg, hnc, hcm, hcs, htake⟩
  · cases he
  simp only [Value.slice.injEq, Option.some.injEq, Addr.mk.injEq, and_true, true_and] at he
  obtain ⟨⟨rfl, rfl⟩, rfl⟩ := he
  have hmul : n * sz ≤ c * sz := Nat.mul_le_mul_right _ hnc
  have hg' : w.heap[b]? = some (.cells cur.toList.toArray E (0, 0)) := by simpa using hg
  have hsz : cur.toList.length = cur.size := Array.length_toList
  have hrun := run_storeVar (P := P) h w b (o + i) v vs cur.toList E hv hm hg' (by omega) h1
  refine ⟨_, hrun, ⟨Keep.setRow w b _ _ E hg' rfl, ?_, fun k hk => .inl hk⟩⟩
  refine ⟨by simp [splice]; omega, .inr ⟨b, o, c, (splice cur.toList (o + i) vs).toArray, rfl, setRow_heap w b _ _ E (0, 0) hg', hnc, hcm, ?_, ?_⟩⟩
  · simp [splice]; omega
  · show ((splice cur.toList (o + i) vs).drop o).take (n * sz) = splice xs i vs
    rw [splice_drop (by omega), splice_take (by omega) (by simp; omega), htake]
end Go.Hb

namespace Go.Hb
section
variable {P : Program} {f : Frm} {T T' T'' : TypeId} {x y : Operand} {C : World → Prop} {w0 w : World} {F : Nat → Prop} {L L' : List Asrt}
theorem Ev.min2 {k k' : IntKind} {a b : Int} {ts : Array TypeId} (hx : f.ev x = .int k a) (hy : f.ev y = .int k' b) : Ev P C f (.call ⟨.builtin .min, [x, y].toArray, ts⟩) T (.int k (if b < a then b else a)) := fun w _ d p af g => by
  simp [execOp, resolve, invoke, builtin, Builtin.min_, Builtin.min2, hx, hy]
theorem Ev.max2 {k k' : IntKind} {a b : Int} {ts : Array TypeId} (hx : f.ev x = .int k a) (hy : f.ev y = .int k' b) : Ev P C f (.call ⟨.builtin .max, [x, y].toArray, ts⟩) T (.int k (if b > a then b else a)) := fun w _ d p af g => by
  simp [execOp, resolve, invoke, builtin, Builtin.max_, Builtin.max2, hx, hy]
class MapT (P : Program) (T : TypeId) : Prop where
  ex : ∃ k e, P.underlying T = some (.map k e)
theorem equalIn_map (w : World) (d : Nat) {t k e : TypeId} {r : Option Nat} (h : P.underlying t = some (.map k e)) : (Op.equalIn (d + 1) t (.map r) (.map none)).run P w = .ok r.isNone w := by
  cases r <;> simp [Op.equalIn, run_underlying h]
theorem Ev.map_nil [h : MapT P T'] {r : Option Nat} (hx : f.ev x = .map r) (hy : f.ev y = .map none) : Ev P C f (.binOp .eql T' x y T'') T (.bool r.isNone) :=
  ev_eql_of (fun w => by rw [hx, hy]; rfl) (by rw [hx, hy]; rfl) (fun w => by
    obtain ⟨k, e, hu⟩ := h.ex
    rw [hx, hy]
    exact equalIn_map w _ hu)
end
end Go.Hb

namespace Go.Proofs.Ytgblmkpfkcibiaa
open Go.Hb
attribute [local irreducible] LR CW At Ev thn blk finK noG again CallsTo DW QL dnext TW DP
set_option maxRecDepth 100000

theorem m58 (p : Pln) (A : PlA) (n : Int) (w : World) : CallsTo Try.prog 58 [p.val A, .int .i64 n] w fun v w' => v = .bool (ringG p.R n) ∧ Grew w w' := by
  refine go_in (n := 14) (St.refl _ NoF) Try.func58 rfl rfl ?_
  repeat'(first|refine kv' ?_|apply jJ|refine jE' ?_|refine jp' ?_|(apply jc;kernel_rfl)|refine kg' ?_|refine kG' ?_|refine kB' fun _=>?_|refine kA' fun _=>?_|refine kK' fun _=>?_|refine kU' ?_|((first|refine kR' ?_ ?_|refine kQ' ?_ ?_);all_goals(intro hc;try simp only[hcs]at hc;try(exfalso;first|contradiction|omega))))
  all_goals (
    (apply ret1; (· exact rfl); intro w' hS)
    refine ⟨congrArg Value.bool ?_, hS.toKeep⟩
    unfold ringG
    first | (rw [decide_eq_true ⟨by omega, by omega⟩]; done) | (rw [decide_eq_false (by omega)]; done) | (rw [decide_eq_decide]; omega))
theorem gat_cell {w : World} {b o : Nat} {G : List Gat} {j : Nat} (h : Rd w (some ⟨b, o, none⟩) (gv G)) (hj : j < G.length) (k : Nat) {v : Value} (hv : (Gat.cells G[j])[k]? = some v) {q : Nat} (hq : q = o + (j : Int).toNat * 3 + k) : w.cell? ⟨b, q, none⟩ = some v :=
  row_cell gat_len h hj k hv (by rw [hq, Int.toNat_natCast])
set_option maxHeartbeats 1000000 in
theorem m49 (p : Pln) (A : PlA) (i : Nat) (w : World) (hr : PlR w p A) (hi : PlI p) (hlt : i < p.G.length) (hR : 1 ≤ p.R.length) :
    CallsTo Try.prog 49 [p.val A, .int .i64 i] w fun v w' => v = .bool (!(p.G.take i).any (fun q => decide (q.n = (p.G[i]'hlt).n)) && gat1 p.R (p.G[i]'hlt)) ∧ Grew w w' := by
  refine go_in (n := 65) (pl_in hr) Try.func49 rfl rfl ?_
  have hgl := hi.gl
  obtain ⟨bg, og, hga⟩ := hr.g.form (rows_ne gat_len (by omega) hlt)
  obtain ⟨ba, oa, hra⟩ := hr.r.form (fun e => by have := congrArg List.length e; simp only [iv_length, List.length_nil] at this; omega)
  rw [show p.val A = .agg [.slice A.ra p.R.length A.rc, .slice A.ga p.G.length A.gc].toArray from rfl, hra, hga]
  obtain ⟨y, hy⟩ : ∃ y, p.G[i] = y := ⟨_, rfl⟩
  rw [hy]
  repeat'(first|(refine kA' fun bg2 => ?_)|refine kv' ?_|apply jJ|refine jE' ?_|refine jp' ?_|(apply jc;kernel_rfl)|refine kg' ?_|refine kG' ?_|refine kB' fun _=>?_|refine kA' fun _=>?_|refine kK' fun _=>?_|refine kU' ?_|(apply idxX;(iterate 2 exact rfl);(iterate 2(first|omega|(dsimp only;omega)));exact rfl)|(apply LR.ev; (· apply Ev.load_agg_at (cs := [Value.int .i64 y.n, .int .i64 y.a, .int .i64 y.b]); (· exact rfl); (· exact rfl); (· intro w' hw'; have h9 := rd_row (f := Gat.cells) (l := p.G) (i := i) (q := (i : Int).toNat * 3) gat_len (hw'.rd_of memZ) hlt (by simp); rw [hy] at h9; exact h9)); (· exact rfl))|((first|refine kR' ?_ ?_|refine kQ' ?_ ?_);all_goals(intro hc;try simp only[hcs]at hc;try(exfalso;first|contradiction|omega))))
  rename_i b1
  apply CW.loop [4, 6, 12, 13, 14, 15, 16, 17, 18, 19, 20, 21, 22, 23, 24, 25] (fun k : Nat => k ≤ i ∧ (p.G.take k).any (fun q => decide (q.n = y.n)) = false) (fun k => [(6, .int .i64 (k : Int))])
    (fun _ => St w NoF [.own bg2 (.cells [Value.int .i64 y.n, .int .i64 y.a, .int .i64 y.b].toArray 34 (0, 0)), .own b1 (.cells [Value.slice (some ⟨ba, oa, none⟩) p.R.length A.rc, .slice (some ⟨bg, og, none⟩) p.G.length A.gc].toArray 25 (0, 0)), rdA (some ⟨bg, og, none⟩) (gv p.G), rdA (some ⟨ba, oa, none⟩) (iv p.R)]) (fun k => i - k)
  · exact fun w' hw' => ⟨0, ⟨by omega, rfl⟩, ⟨rfl, trivial⟩, hw'⟩
  rintro k g1 ⟨hk, hany⟩
  by_cases hki : k < i
  · have hkg : k < p.G.length := by omega
    obtain ⟨z, hz⟩ : ∃ z, p.G[k] = z := ⟨_, rfl⟩
    have htk : (p.G.take (k + 1)).any (fun q => decide (q.n = y.n)) = decide (z.n = y.n) := by
      rw [List.take_add_one, List.getElem?_eq_getElem hkg, List.any_append, hany, hz]; simp
    repeat'(first|refine kv' ?_|apply jJ|refine jE' ?_|refine jp' ?_|(apply jc;kernel_rfl)|refine kg' ?_|refine kG' ?_|refine kB' fun _=>?_|refine kA' fun _=>?_|refine kK' fun _=>?_|refine kU' ?_|(apply idxX;(iterate 2 exact rfl);(iterate 2(first|omega|(dsimp only;omega)));exact rfl)|(apply addX;(iterate 2 exact rfl);(iterate 2(first|omega|(dsimp only;omega)));exact rfl)|(apply LR.ev; (· apply Ev.load (v := .int .i64 z.n); (· exact rfl); (· intro w' hw'; refine gat_cell (hw'.rd_of memZ) hkg 0 ?_ ?_; (· rw [hz]; rfl); (· simp; done))); (· exact rfl))|((first|refine kR' ?_ ?_|refine kQ' ?_ ?_);all_goals(intro hc;try simp only[hcs]at hc;try(exfalso;first|contradiction|omega))))
    · (apply ret1; (· exact rfl); intro w' hS)
      refine ⟨congrArg Value.bool ?_, hS.toKeep⟩
      have : (p.G.take i).any (fun q => decide (q.n = y.n)) = true := by
        rw [List.any_eq_true]
        refine ⟨z, ?_, by simp_all⟩
        rw [← hz]
        exact List.mem_take_iff_getElem.2 ⟨k, by omega, rfl⟩
      rw [this]
      rfl
    · refine At.again (k + 1) ⟨by omega, by rw [htk]; simp_all⟩ ?_ ⟨rfl, trivial⟩ (fun w' hw' => hw') (by omega)
      (repeat (first | exact Out.refl _ _ | exact Out.mix | (apply Out.upd; (· exact rfl)) | (apply Out.updL; (· exact rfl)) | (apply Out.mixs; (· exact rfl))))
  have hke : k = i := by omega
  subst hke
  rw [hany]
  by_cases hab : (0 ≤ y.a ∧ y.a < p.R.length) ∧ (0 ≤ y.b ∧ y.b < p.R.length)
  · obtain ⟨na, hna⟩ : ∃ n : Nat, y.a = n := ⟨y.a.toNat, by omega⟩
    obtain ⟨nb, hnb⟩ : ∃ n : Nat, y.b = n := ⟨y.b.toNat, by omega⟩
    rw [hna, hnb] at hab ⊢
    have hna' : na < p.R.length := by omega
    have hnb' : nb < p.R.length := by omega
    have ha : ringG p.R na = true := by unfold ringG; exact decide_eq_true hab.1
    have hb : ringG p.R nb = true := by unfold ringG; exact decide_eq_true hab.2
    have hg1 : gat1 p.R y = (decide ((na : Int) < nb) && (hasC p.R[na] y.n && hasC p.R[nb] y.n)) := by
      unfold gat1
      rw [hna, hnb, ha, hb, Int.toNat_natCast, Int.toNat_natCast, getD_nat _ hna', getD_nat _ hnb']
      rfl
    rw [hg1]
    repeat'(first|(apply CW.reg_heldC)|refine kv' ?_|apply jJ|refine jE' ?_|refine jp' ?_|(apply jc;kernel_rfl)|refine kg' ?_|refine kG' ?_|refine kB' fun _=>?_|refine kA' fun _=>?_|refine kK' fun _=>?_|refine kU' ?_|((first|refine kR' ?_ ?_|refine kQ' ?_ ?_);all_goals(intro hc;try simp only[hcs]at hc;try(exfalso;first|contradiction|omega))))
    all_goals (
      apply DW.quiet [0, 1, 2]
      · decide +kernel
      · first | exact fun _ h => h | exact fun _ h => St.sub h subZ
      repeat'(first|refine yv' ?_|(first | (apply QL.ev; (· exact rfl); (· first | (apply Ev.indexAddr; (· exact rfl); (· exact rfl); (· omega); (· omega)) | (apply Ev.load_rd; (· exact rfl); (· (repeat (first | exact mH _ _ | apply mT))); (· first | (refine iv_at (l := p.R) (i := na) ?_ ?_; (· simp; done); (· omega)) | (refine iv_at (l := p.R) (i := nb) ?_ ?_; (· simp; done); (· omega))))); (· exact rfl)) | (apply QL.evg; (iterate 3 exact rfl); (· first | (apply Ev.indexAddr; (· exact rfl); (· exact rfl); (· omega); (· omega)) | (apply Ev.load_rd; (· exact rfl); (· (repeat (first | exact mH _ _ | apply mT))); (· first | (refine iv_at (l := p.R) (i := na) ?_ ?_; (· simp; done); (· omega)) | (refine iv_at (l := p.R) (i := nb) ?_ ?_; (· simp; done); (· omega))))); (· exact rfl)))|refine uv' ?_|refine un' ?_|(refine us' ?_ ?_;all_goals(intro hc;try simp only[hcs]at hc;try(exfalso;first|contradiction|omega)))|apply QL.nil)
      all_goals (show DW _ _ _ _ _ _ _ _))
    all_goals (
      apply DW.loud 3
      · exact rfl
      · decide +kernel
      repeat'(first|refine kg' ?_|refine kG' ?_|apply kM|refine kv' ?_|refine kK' fun _=>?_|refine kU' ?_|refine kB' fun _=>?_|refine kA' fun _=>?_|(apply kq; (· exact rfl); (· intro w1 h1; first | (have hq := CallsTo.q (show CallsTo Try.prog 58 [p.val ⟨some ⟨ba, oa, none⟩, A.rc, some ⟨bg, og, none⟩, A.gc⟩, .int .i64 na] w1 _ from m58 p _ na w1) h1; rw [ha] at hq; exact hq) | (have hq := CallsTo.q (show CallsTo Try.prog 58 [p.val ⟨some ⟨ba, oa, none⟩, A.rc, some ⟨bg, og, none⟩, A.gc⟩, .int .i64 nb] w1 _ from m58 p _ nb w1) h1; rw [hb] at hq; exact hq) | (show CallsTo Try.prog 53 [.int .i64 p.R[na], .int .i64 y.n] w1 _; exact CallsTo.q (q50 p.R[na] y.n w1) h1) | (show CallsTo Try.prog 53 [.int .i64 p.R[nb], .int .i64 y.n] w1 _; exact CallsTo.q (q50 p.R[nb] y.n w1) h1))))
      all_goals (refine At.stage_same (fun _ h => St.sub h subZ) ?_))
    all_goals (
      apply DW.quiet [4, 5, 6, 7]
      · decide +kernel
      · first | exact fun _ h => h | exact fun _ h => St.sub h subZ
      repeat'(first|refine yv' ?_|(first | (apply QL.ev; (· exact rfl); (· first | (apply Ev.indexAddr; (· exact rfl); (· exact rfl); (· omega); (· omega)) | (apply Ev.load_rd; (· exact rfl); (· (repeat (first | exact mH _ _ | apply mT))); (· first | (refine iv_at (l := p.R) (i := na) ?_ ?_; (· simp; done); (· omega)) | (refine iv_at (l := p.R) (i := nb) ?_ ?_; (· simp; done); (· omega))))); (· exact rfl)) | (apply QL.evg; (iterate 3 exact rfl); (· first | (apply Ev.indexAddr; (· exact rfl); (· exact rfl); (· omega); (· omega)) | (apply Ev.load_rd; (· exact rfl); (· (repeat (first | exact mH _ _ | apply mT))); (· first | (refine iv_at (l := p.R) (i := na) ?_ ?_; (· simp; done); (· omega)) | (refine iv_at (l := p.R) (i := nb) ?_ ?_; (· simp; done); (· omega))))); (· exact rfl)))|refine uv' ?_|refine un' ?_|(refine us' ?_ ?_;all_goals(intro hc;try simp only[hcs]at hc;try(exfalso;first|contradiction|omega)))|apply QL.nil)
      all_goals (show DW _ _ _ _ _ _ _ _))
    all_goals (
      apply DW.loud 8
      · exact rfl
      · decide +kernel
      repeat'(first|refine kg' ?_|refine kG' ?_|apply kM|refine kv' ?_|refine kK' fun _=>?_|refine kU' ?_|refine kB' fun _=>?_|refine kA' fun _=>?_|(apply kq; (· exact rfl); (· intro w1 h1; first | (have hq := CallsTo.q (show CallsTo Try.prog 58 [p.val ⟨some ⟨ba, oa, none⟩, A.rc, some ⟨bg, og, none⟩, A.gc⟩, .int .i64 na] w1 _ from m58 p _ na w1) h1; rw [ha] at hq; exact hq) | (have hq := CallsTo.q (show CallsTo Try.prog 58 [p.val ⟨some ⟨ba, oa, none⟩, A.rc, some ⟨bg, og, none⟩, A.gc⟩, .int .i64 nb] w1 _ from m58 p _ nb w1) h1; rw [hb] at hq; exact hq) | (show CallsTo Try.prog 53 [.int .i64 p.R[na], .int .i64 y.n] w1 _; exact CallsTo.q (q50 p.R[na] y.n w1) h1) | (show CallsTo Try.prog 53 [.int .i64 p.R[nb], .int .i64 y.n] w1 _; exact CallsTo.q (q50 p.R[nb] y.n w1) h1))))
      all_goals (refine At.stage_same (fun _ h => St.sub h subZ) ?_))
    all_goals (
      apply DW.quiet [9, 10, 11, 12, 13, 14, 15, 16, 17, 18, 19, 20, 21, 22, 23, 24, 25]
      · decide +kernel
      · first | exact fun _ h => h | exact fun _ h => St.sub h subZ
      repeat'(first|refine yv' ?_|(first | (apply QL.ev; (· exact rfl); (· first | (apply Ev.indexAddr; (· exact rfl); (· exact rfl); (· omega); (· omega)) | (apply Ev.load_rd; (· exact rfl); (· (repeat (first | exact mH _ _ | apply mT))); (· first | (refine iv_at (l := p.R) (i := na) ?_ ?_; (· simp; done); (· omega)) | (refine iv_at (l := p.R) (i := nb) ?_ ?_; (· simp; done); (· omega))))); (· exact rfl)) | (apply QL.evg; (iterate 3 exact rfl); (· first | (apply Ev.indexAddr; (· exact rfl); (· exact rfl); (· omega); (· omega)) | (apply Ev.load_rd; (· exact rfl); (· (repeat (first | exact mH _ _ | apply mT))); (· first | (refine iv_at (l := p.R) (i := na) ?_ ?_; (· simp; done); (· omega)) | (refine iv_at (l := p.R) (i := nb) ?_ ?_; (· simp; done); (· omega))))); (· exact rfl)))|refine uv' ?_|refine un' ?_|(refine us' ?_ ?_;all_goals(intro hc;try simp only[hcs]at hc;try(exfalso;first|contradiction|omega)))|apply QL.nil)
      all_goals (show DW _ _ _ _ _ _ _ _))
    all_goals (
      apply DW.loud 26
      · exact rfl
      · decide +kernel
      repeat'(first|refine kg' ?_|refine kG' ?_|apply kM|refine kv' ?_|refine kK' fun _=>?_|refine kU' ?_|refine kB' fun _=>?_|refine kA' fun _=>?_|(apply kq; (· exact rfl); (· intro w1 h1; first | (have hq := CallsTo.q (show CallsTo Try.prog 58 [p.val ⟨some ⟨ba, oa, none⟩, A.rc, some ⟨bg, og, none⟩, A.gc⟩, .int .i64 na] w1 _ from m58 p _ na w1) h1; rw [ha] at hq; exact hq) | (have hq := CallsTo.q (show CallsTo Try.prog 58 [p.val ⟨some ⟨ba, oa, none⟩, A.rc, some ⟨bg, og, none⟩, A.gc⟩, .int .i64 nb] w1 _ from m58 p _ nb w1) h1; rw [hb] at hq; exact hq) | (show CallsTo Try.prog 53 [.int .i64 p.R[na], .int .i64 y.n] w1 _; exact CallsTo.q (q50 p.R[na] y.n w1) h1) | (show CallsTo Try.prog 53 [.int .i64 p.R[nb], .int .i64 y.n] w1 _; exact CallsTo.q (q50 p.R[nb] y.n w1) h1))))
      all_goals (refine At.stage_same (fun _ h => St.sub h subZ) ?_))
    all_goals (
      apply DW.quiet [27, 28, 29, 30, 31, 32, 33, 34, 35, 36]
      · decide +kernel
      · first | exact fun _ h => h | exact fun _ h => St.sub h subZ
      repeat'(first|refine yv' ?_|(first | (apply QL.ev; (· exact rfl); (· first | (apply Ev.indexAddr; (· exact rfl); (· exact rfl); (· omega); (· omega)) | (apply Ev.load_rd; (· exact rfl); (· (repeat (first | exact mH _ _ | apply mT))); (· first | (refine iv_at (l := p.R) (i := na) ?_ ?_; (· simp; done); (· omega)) | (refine iv_at (l := p.R) (i := nb) ?_ ?_; (· simp; done); (· omega))))); (· exact rfl)) | (apply QL.evg; (iterate 3 exact rfl); (· first | (apply Ev.indexAddr; (· exact rfl); (· exact rfl); (· omega); (· omega)) | (apply Ev.load_rd; (· exact rfl); (· (repeat (first | exact mH _ _ | apply mT))); (· first | (refine iv_at (l := p.R) (i := na) ?_ ?_; (· simp; done); (· omega)) | (refine iv_at (l := p.R) (i := nb) ?_ ?_; (· simp; done); (· omega))))); (· exact rfl)))|refine uv' ?_|refine un' ?_|(refine us' ?_ ?_;all_goals(intro hc;try simp only[hcs]at hc;try(exfalso;first|contradiction|omega)))|apply QL.nil)
      all_goals (show DW _ _ _ _ _ _ _ _))
    all_goals (
      apply DW.loud 37
      · exact rfl
      · decide +kernel
      repeat'(first|refine kg' ?_|refine kG' ?_|apply kM|refine kv' ?_|refine kK' fun _=>?_|refine kU' ?_|refine kB' fun _=>?_|refine kA' fun _=>?_|(apply kq; (· exact rfl); (· intro w1 h1; first | (have hq := CallsTo.q (show CallsTo Try.prog 58 [p.val ⟨some ⟨ba, oa, none⟩, A.rc, some ⟨bg, og, none⟩, A.gc⟩, .int .i64 na] w1 _ from m58 p _ na w1) h1; rw [ha] at hq; exact hq) | (have hq := CallsTo.q (show CallsTo Try.prog 58 [p.val ⟨some ⟨ba, oa, none⟩, A.rc, some ⟨bg, og, none⟩, A.gc⟩, .int .i64 nb] w1 _ from m58 p _ nb w1) h1; rw [hb] at hq; exact hq) | (show CallsTo Try.prog 53 [.int .i64 p.R[na], .int .i64 y.n] w1 _; exact CallsTo.q (q50 p.R[na] y.n w1) h1) | (show CallsTo Try.prog 53 [.int .i64 p.R[nb], .int .i64 y.n] w1 _; exact CallsTo.q (q50 p.R[nb] y.n w1) h1))))
      all_goals (refine At.stage_same (fun _ h => St.sub h subZ) ?_))
    all_goals (
      apply DW.quiet [38, 39]
      · decide +kernel
      · first | exact fun _ h => h | exact fun _ h => St.sub h subZ
      repeat'(first|refine yv' ?_|(first | (apply QL.ev; (· exact rfl); (· first | (apply Ev.indexAddr; (· exact rfl); (· exact rfl); (· omega); (· omega)) | (apply Ev.load_rd; (· exact rfl); (· (repeat (first | exact mH _ _ | apply mT))); (· first | (refine iv_at (l := p.R) (i := na) ?_ ?_; (· simp; done); (· omega)) | (refine iv_at (l := p.R) (i := nb) ?_ ?_; (· simp; done); (· omega))))); (· exact rfl)) | (apply QL.evg; (iterate 3 exact rfl); (· first | (apply Ev.indexAddr; (· exact rfl); (· exact rfl); (· omega); (· omega)) | (apply Ev.load_rd; (· exact rfl); (· (repeat (first | exact mH _ _ | apply mT))); (· first | (refine iv_at (l := p.R) (i := na) ?_ ?_; (· simp; done); (· omega)) | (refine iv_at (l := p.R) (i := nb) ?_ ?_; (· simp; done); (· omega))))); (· exact rfl)))|refine uv' ?_|refine un' ?_|(refine us' ?_ ?_;all_goals(intro hc;try simp only[hcs]at hc;try(exfalso;first|contradiction|omega)))|apply QL.nil)
      all_goals (show DW _ _ _ _ _ _ _ _))
    all_goals (first | (apply DW.done_thn; (· decide +kernel)) | (apply DW.done; (· decide +kernel)))
    repeat'(first|refine kv' ?_|apply jJ|refine jE' ?_|refine jp' ?_|(apply jc;kernel_rfl)|refine kg' ?_|refine kG' ?_|refine kB' fun _=>?_|refine kA' fun _=>?_|refine kK' fun _=>?_|refine kU' ?_|((first|refine kR' ?_ ?_|refine kQ' ?_ ?_);all_goals(intro hc;try simp only[hcs]at hc;try(exfalso;first|contradiction|omega))))
    all_goals (
      (apply ret1; (· exact rfl); intro w' hS)
      refine ⟨congrArg Value.bool ?_, hS.toKeep⟩
      clear hg1 hy
      first | (rw [decide_eq_false (by omega)]; rfl) | (simp_all; done))
  · cases ha : ringG p.R y.a with
    | false =>
      have hg1 : gat1 p.R y = false := by unfold gat1; rw [ha]; rfl
      rw [hg1]
      repeat'(first|(apply CW.reg_heldC)|refine kv' ?_|apply jJ|refine jE' ?_|refine jp' ?_|(apply jc;kernel_rfl)|refine kg' ?_|refine kG' ?_|refine kB' fun _=>?_|refine kA' fun _=>?_|refine kK' fun _=>?_|refine kU' ?_|((first|refine kR' ?_ ?_|refine kQ' ?_ ?_);all_goals(intro hc;try simp only[hcs]at hc;try(exfalso;first|contradiction|omega))))
      all_goals (
        apply DW.quiet [0, 1, 2]
        · decide +kernel
        · first | exact fun _ h => h | exact fun _ h => St.sub h subZ
        repeat'(first|refine yv' ?_|refine uv' ?_|refine un' ?_|(refine us' ?_ ?_;all_goals(intro hc;try simp only[hcs]at hc;try(exfalso;first|contradiction|omega)))|apply QL.nil)
        all_goals (show DW _ _ _ _ _ _ _ _))
      all_goals (
        apply DW.loud 3
        · exact rfl
        · decide +kernel
        repeat'(first|refine kg' ?_|refine kG' ?_|apply kM|refine kv' ?_|refine kK' fun _=>?_|refine kU' ?_|refine kB' fun _=>?_|refine kA' fun _=>?_|(apply kq; (· exact rfl); (· intro w1 h1; have hq := CallsTo.q (show CallsTo Try.prog 58 [p.val ⟨some ⟨ba, oa, none⟩, A.rc, some ⟨bg, og, none⟩, A.gc⟩, .int .i64 y.a] w1 _ from m58 p _ y.a w1) h1; rw [ha] at hq; exact hq)))
        all_goals (refine At.stage_same (fun _ h => St.sub h subZ) ?_))
      all_goals (
        apply DW.quiet [4, 5, 6, 7]
        · decide +kernel
        · first | exact fun _ h => h | exact fun _ h => St.sub h subZ
        repeat'(first|refine yv' ?_|refine uv' ?_|refine un' ?_|(refine us' ?_ ?_;all_goals(intro hc;try simp only[hcs]at hc;try(exfalso;first|contradiction|omega)))|apply QL.nil)
        all_goals (show DW _ _ _ _ _ _ _ _))
      all_goals (
        apply DW.loud 8
        · exact rfl
        · decide +kernel
        repeat'(first|refine kg' ?_|refine kG' ?_|apply kM|refine kv' ?_|refine kK' fun _=>?_|refine kU' ?_|refine kB' fun _=>?_|refine kA' fun _=>?_|(apply kq; (· exact rfl); (· intro w1 h1; have hq := CallsTo.q (show CallsTo Try.prog 58 [p.val ⟨some ⟨ba, oa, none⟩, A.rc, some ⟨bg, og, none⟩, A.gc⟩, .int .i64 y.a] w1 _ from m58 p _ y.a w1) h1; rw [ha] at hq; exact hq)))
        all_goals (refine At.stage_same (fun _ h => St.sub h subZ) ?_))
      all_goals (
        apply DW.quiet [9, 10, 11, 12, 13, 14, 15, 16, 17, 18, 19, 20, 21, 22, 23, 24, 25]
        · decide +kernel
        · first | exact fun _ h => h | exact fun _ h => St.sub h subZ
        repeat'(first|refine yv' ?_|refine uv' ?_|refine un' ?_|(refine us' ?_ ?_;all_goals(intro hc;try simp only[hcs]at hc;try(exfalso;first|contradiction|omega)))|apply QL.nil)
        all_goals (show DW _ _ _ _ _ _ _ _))
      all_goals (
        apply DW.loud 26
        · exact rfl
        · decide +kernel
        repeat'(first|refine kg' ?_|refine kG' ?_|apply kM|refine kv' ?_|refine kK' fun _=>?_|refine kU' ?_|refine kB' fun _=>?_|refine kA' fun _=>?_|(apply kq; (· exact rfl); (· intro w1 h1; have hq := CallsTo.q (show CallsTo Try.prog 58 [p.val ⟨some ⟨ba, oa, none⟩, A.rc, some ⟨bg, og, none⟩, A.gc⟩, .int .i64 y.a] w1 _ from m58 p _ y.a w1) h1; rw [ha] at hq; exact hq)))
        all_goals (refine At.stage_same (fun _ h => St.sub h subZ) ?_))
      all_goals (
        apply DW.quiet [27, 28, 29, 30, 31, 32, 33, 34, 35, 36]
        · decide +kernel
        · first | exact fun _ h => h | exact fun _ h => St.sub h subZ
        repeat'(first|refine yv' ?_|refine uv' ?_|refine un' ?_|(refine us' ?_ ?_;all_goals(intro hc;try simp only[hcs]at hc;try(exfalso;first|contradiction|omega)))|apply QL.nil)
        all_goals (show DW _ _ _ _ _ _ _ _))
      all_goals (
        apply DW.loud 37
        · exact rfl
        · decide +kernel
        repeat'(first|refine kg' ?_|refine kG' ?_|apply kM|refine kv' ?_|refine kK' fun _=>?_|refine kU' ?_|refine kB' fun _=>?_|refine kA' fun _=>?_|(apply kq; (· exact rfl); (· intro w1 h1; have hq := CallsTo.q (show CallsTo Try.prog 58 [p.val ⟨some ⟨ba, oa, none⟩, A.rc, some ⟨bg, og, none⟩, A.gc⟩, .int .i64 y.a] w1 _ from m58 p _ y.a w1) h1; rw [ha] at hq; exact hq)))
        all_goals (refine At.stage_same (fun _ h => St.sub h subZ) ?_))
      all_goals (
        apply DW.quiet [38, 39]
        · decide +kernel
        · first | exact fun _ h => h | exact fun _ h => St.sub h subZ
        repeat'(first|refine yv' ?_|refine uv' ?_|refine un' ?_|(refine us' ?_ ?_;all_goals(intro hc;try simp only[hcs]at hc;try(exfalso;first|contradiction|omega)))|apply QL.nil)
        all_goals (show DW _ _ _ _ _ _ _ _))
      all_goals (first | (apply DW.done_thn; (· decide +kernel)) | (apply DW.done; (· decide +kernel)))
      repeat'(first|refine kv' ?_|apply jJ|refine jE' ?_|refine jp' ?_|(apply jc;kernel_rfl)|refine kg' ?_|refine kG' ?_|refine kB' fun _=>?_|refine kA' fun _=>?_|refine kK' fun _=>?_|refine kU' ?_|((first|refine kR' ?_ ?_|refine kQ' ?_ ?_);all_goals(intro hc;try simp only[hcs]at hc;try(exfalso;first|contradiction|omega))))
      (apply ret1; (· exact rfl); intro w' hS)
      exact ⟨rfl, hS.toKeep⟩
    | true =>
      have hb : ringG p.R y.b = false := by
        unfold ringG at ha ⊢
        rw [decide_eq_true_eq] at ha
        exact decide_eq_false fun h => hab ⟨ha, h⟩
      have hg1 : gat1 p.R y = false := by unfold gat1; rw [ha, hb]; rfl
      rw [hg1]
      repeat'(first|(apply CW.reg_heldC)|refine kv' ?_|apply jJ|refine jE' ?_|refine jp' ?_|(apply jc;kernel_rfl)|refine kg' ?_|refine kG' ?_|refine kB' fun _=>?_|refine kA' fun _=>?_|refine kK' fun _=>?_|refine kU' ?_|((first|refine kR' ?_ ?_|refine kQ' ?_ ?_);all_goals(intro hc;try simp only[hcs]at hc;try(exfalso;first|contradiction|omega))))
      all_goals (
        apply DW.quiet [0, 1, 2]
        · decide +kernel
        · first | exact fun _ h => h | exact fun _ h => St.sub h subZ
        repeat'(first|refine yv' ?_|refine uv' ?_|refine un' ?_|(refine us' ?_ ?_;all_goals(intro hc;try simp only[hcs]at hc;try(exfalso;first|contradiction|omega)))|apply QL.nil)
        all_goals (show DW _ _ _ _ _ _ _ _))
      all_goals (
        apply DW.loud 3
        · exact rfl
        · decide +kernel
        repeat'(first|refine kg' ?_|refine kG' ?_|apply kM|refine kv' ?_|refine kK' fun _=>?_|refine kU' ?_|refine kB' fun _=>?_|refine kA' fun _=>?_|(apply kq; (· exact rfl); (· intro w1 h1; first | (have hq := CallsTo.q (show CallsTo Try.prog 58 [p.val ⟨some ⟨ba, oa, none⟩, A.rc, some ⟨bg, og, none⟩, A.gc⟩, .int .i64 y.a] w1 _ from m58 p _ y.a w1) h1; rw [ha] at hq; exact hq) | (have hq := CallsTo.q (show CallsTo Try.prog 58 [p.val ⟨some ⟨ba, oa, none⟩, A.rc, some ⟨bg, og, none⟩, A.gc⟩, .int .i64 y.b] w1 _ from m58 p _ y.b w1) h1; rw [hb] at hq; exact hq))))
        all_goals (refine At.stage_same (fun _ h => St.sub h subZ) ?_))
      all_goals (
        apply DW.quiet [4, 5, 6, 7]
        · decide +kernel
        · first | exact fun _ h => h | exact fun _ h => St.sub h subZ
        repeat'(first|refine yv' ?_|refine uv' ?_|refine un' ?_|(refine us' ?_ ?_;all_goals(intro hc;try simp only[hcs]at hc;try(exfalso;first|contradiction|omega)))|apply QL.nil)
        all_goals (show DW _ _ _ _ _ _ _ _))
      all_goals (
        apply DW.loud 8
        · exact rfl
        · decide +kernel
        repeat'(first|refine kg' ?_|refine kG' ?_|apply kM|refine kv' ?_|refine kK' fun _=>?_|refine kU' ?_|refine kB' fun _=>?_|refine kA' fun _=>?_|(apply kq; (· exact rfl); (· intro w1 h1; first | (have hq := CallsTo.q (show CallsTo Try.prog 58 [p.val ⟨some ⟨ba, oa, none⟩, A.rc, some ⟨bg, og, none⟩, A.gc⟩, .int .i64 y.a] w1 _ from m58 p _ y.a w1) h1; rw [ha] at hq; exact hq) | (have hq := CallsTo.q (show CallsTo Try.prog 58 [p.val ⟨some ⟨ba, oa, none⟩, A.rc, some ⟨bg, og, none⟩, A.gc⟩, .int .i64 y.b] w1 _ from m58 p _ y.b w1) h1; rw [hb] at hq; exact hq))))
        all_goals (refine At.stage_same (fun _ h => St.sub h subZ) ?_))
      all_goals (
        apply DW.quiet [9, 10, 11, 12, 13, 14, 15, 16, 17, 18, 19, 20, 21, 22, 23, 24, 25]
        · decide +kernel
        · first | exact fun _ h => h | exact fun _ h => St.sub h subZ
        repeat'(first|refine yv' ?_|refine uv' ?_|refine un' ?_|(refine us' ?_ ?_;all_goals(intro hc;try simp only[hcs]at hc;try(exfalso;first|contradiction|omega)))|apply QL.nil)
        all_goals (show DW _ _ _ _ _ _ _ _))
      all_goals (
        apply DW.loud 26
        · exact rfl
        · decide +kernel
        repeat'(first|refine kg' ?_|refine kG' ?_|apply kM|refine kv' ?_|refine kK' fun _=>?_|refine kU' ?_|refine kB' fun _=>?_|refine kA' fun _=>?_|(apply kq; (· exact rfl); (· intro w1 h1; first | (have hq := CallsTo.q (show CallsTo Try.prog 58 [p.val ⟨some ⟨ba, oa, none⟩, A.rc, some ⟨bg, og, none⟩, A.gc⟩, .int .i64 y.a] w1 _ from m58 p _ y.a w1) h1; rw [ha] at hq; exact hq) | (have hq := CallsTo.q (show CallsTo Try.prog 58 [p.val ⟨some ⟨ba, oa, none⟩, A.rc, some ⟨bg, og, none⟩, A.gc⟩, .int .i64 y.b] w1 _ from m58 p _ y.b w1) h1; rw [hb] at hq; exact hq))))
        all_goals (refine At.stage_same (fun _ h => St.sub h subZ) ?_))
      all_goals (
        apply DW.quiet [27, 28, 29, 30, 31, 32, 33, 34, 35, 36]
        · decide +kernel
        · first | exact fun _ h => h | exact fun _ h => St.sub h subZ
        repeat'(first|refine yv' ?_|refine uv' ?_|refine un' ?_|(refine us' ?_ ?_;all_goals(intro hc;try simp only[hcs]at hc;try(exfalso;first|contradiction|omega)))|apply QL.nil)
        all_goals (show DW _ _ _ _ _ _ _ _))
      all_goals (
        apply DW.loud 37
        · exact rfl
        · decide +kernel
        repeat'(first|refine kg' ?_|refine kG' ?_|apply kM|refine kv' ?_|refine kK' fun _=>?_|refine kU' ?_|refine kB' fun _=>?_|refine kA' fun _=>?_|(apply kq; (· exact rfl); (· intro w1 h1; first | (have hq := CallsTo.q (show CallsTo Try.prog 58 [p.val ⟨some ⟨ba, oa, none⟩, A.rc, some ⟨bg, og, none⟩, A.gc⟩, .int .i64 y.a] w1 _ from m58 p _ y.a w1) h1; rw [ha] at hq; exact hq) | (have hq := CallsTo.q (show CallsTo Try.prog 58 [p.val ⟨some ⟨ba, oa, none⟩, A.rc, some ⟨bg, og, none⟩, A.gc⟩, .int .i64 y.b] w1 _ from m58 p _ y.b w1) h1; rw [hb] at hq; exact hq))))
        all_goals (refine At.stage_same (fun _ h => St.sub h subZ) ?_))
      all_goals (
        apply DW.quiet [38, 39]
        · decide +kernel
        · first | exact fun _ h => h | exact fun _ h => St.sub h subZ
        repeat'(first|refine yv' ?_|refine uv' ?_|refine un' ?_|(refine us' ?_ ?_;all_goals(intro hc;try simp only[hcs]at hc;try(exfalso;first|contradiction|omega)))|apply QL.nil)
        all_goals (show DW _ _ _ _ _ _ _ _))
      all_goals (first | (apply DW.done_thn; (· decide +kernel)) | (apply DW.done; (· decide +kernel)))
      repeat'(first|refine kv' ?_|apply jJ|refine jE' ?_|refine jp' ?_|(apply jc;kernel_rfl)|refine kg' ?_|refine kG' ?_|refine kB' fun _=>?_|refine kA' fun _=>?_|refine kK' fun _=>?_|refine kU' ?_|((first|refine kR' ?_ ?_|refine kQ' ?_ ?_);all_goals(intro hc;try simp only[hcs]at hc;try(exfalso;first|contradiction|omega))))
      (apply ret1; (· exact rfl); intro w' hS)
      exact ⟨rfl, hS.toKeep⟩
set_option maxHeartbeats 1000000 in
theorem m50 (p : Pln) (A : PlA) (n : Int) (w : World) (hr : PlR w p A) (hi : PlI p) :
    CallsTo Try.prog 50 [p.val A, .int .i64 n] w fun v w' => v = .tuple [.int .i64 (cntR p.R n : Nat), .int .i64 (byG p.G n : Nat)].toArray ∧ Grew w w' := by
  refine go_in (n := 43) (pl_in hr) Try.func50 rfl rfl ?_
  have hgl := hi.gl
  have hrl := hi.rl
  repeat'(first|refine kv' ?_|apply jJ|refine jE' ?_|refine jp' ?_|(apply jc;kernel_rfl)|refine kg' ?_|refine kG' ?_|refine kB' fun _=>?_|refine kA' fun _=>?_|refine kK' fun _=>?_|refine kU' ?_|((first|refine kR' ?_ ?_|refine kQ' ?_ ?_);all_goals(intro hc;try simp only[hcs]at hc;try(exfalso;first|contradiction|omega))))
  rename_i b1
  apply CW.loop [6, 8, 10, 11, 12, 13, 14, 15, 16, 17, 18, 19, 20, 21, 22, 23, 24, 25] (fun k : Nat => k ≤ p.R.length) (fun k => [(6, .int .i64 (((p.R.take k).filter fun c => hasC c n).length : Nat)), (8, .int .i64 (k : Int))])
    (fun _ => St w NoF [.own b1 (.cells [Value.slice A.ra p.R.length A.rc, .slice A.ga p.G.length A.gc].toArray 25 (0, 0)), rdA A.ga (gv p.G), rdA A.ra (iv p.R)]) (fun k => p.R.length - k)
  · exact fun w' hw' => ⟨0, by omega, ⟨rfl, rfl, trivial⟩, hw'⟩
  intro k g1 hk
  by_cases hki : k < p.R.length
  · obtain ⟨ba, oa, hra⟩ := hr.r.form (fun e => by have := congrArg List.length e; simp only [iv_length, List.length_nil] at this; omega)
    rw [hra]
    have hle : ((p.R.take k).filter fun c => hasC c n).length ≤ k := Nat.le_trans (List.length_filter_le _ _) (by rw [List.length_take]; omega)
    have htk : ((p.R.take (k + 1)).filter fun c => hasC c n).length = ((p.R.take k).filter fun c => hasC c n).length + (if hasC p.R[k] n = true then 1 else 0) := by
      rw [List.take_add_one, List.getElem?_eq_getElem hki, List.filter_append, List.length_append]
      congr 1
      show (List.filter (fun c => hasC c n) [p.R[k]]).length = _
      rw [List.filter_cons]
      split <;> rfl
    repeat'(first|refine kv' ?_|apply jJ|refine jE' ?_|refine jp' ?_|(apply jc;kernel_rfl)|refine kg' ?_|refine kG' ?_|refine kB' fun _=>?_|refine kA' fun _=>?_|refine kK' fun _=>?_|refine kU' ?_|(apply idxX;(iterate 2 exact rfl);(iterate 2(first|omega|(dsimp only;omega)));exact rfl)|(apply LR.ev; (· apply Ev.load_rd; (· exact rfl); (· repeat (first | exact mH _ _ | apply mT)); (· exact iv_at (i := k) (by simp) (by omega))); (· exact rfl))|(apply addX;(iterate 2 exact rfl);(iterate 2(first|omega|(dsimp only;omega)));exact rfl)|(apply kq; (· exact rfl); (· intro w1 h1; show CallsTo Try.prog 53 [.int .i64 p.R[k], .int .i64 n] w1 _; exact CallsTo.q (q50 p.R[k] n w1) h1))|((first|refine kR' ?_ ?_|refine kQ' ?_ ?_);all_goals(intro hc;try simp only[hcs]at hc;try(exfalso;first|contradiction|omega))))
    all_goals (
      refine At.again (k + 1) (by omega) ?_ ⟨?_, rfl, trivial⟩ (fun w' hw' => hw') (by omega)
      · (repeat (first | exact Out.refl _ _ | exact Out.mix | (apply Out.upd; (· exact rfl)) | (apply Out.updL; (· exact rfl)) | (apply Out.mixs; (· exact rfl))))
      · rw [htk]
        first | (rw [if_pos (by assumption)]; rfl) | (rw [if_neg (by simp_all)]; rfl))
  have hke : k = p.R.length := by omega
  subst hke
  rw [List.take_length]
  show CW _ _ _ _ (updL (mix _ _ _) [(6, .int .i64 (cntR p.R n : Nat)), (8, _)]) _
  repeat'(first|refine kv' ?_|apply jJ|refine jE' ?_|refine jp' ?_|(apply jc;kernel_rfl)|refine kg' ?_|refine kG' ?_|refine kB' fun _=>?_|refine kA' fun _=>?_|refine kK' fun _=>?_|refine kU' ?_|((first|refine kR' ?_ ?_|refine kQ' ?_ ?_);all_goals(intro hc;try simp only[hcs]at hc;try(exfalso;first|contradiction|omega))))
  apply CW.loop [7, 9, 26, 27, 28, 29, 30, 31, 32, 33, 34, 35, 36, 37, 38, 39, 40] (fun k : Nat => k ≤ p.G.length) (fun k => [(7, .int .i64 (byG (p.G.take k) n : Nat)), (9, .int .i64 (k : Int))])
    (fun _ => St w NoF [.own b1 (.cells [Value.slice A.ra p.R.length A.rc, .slice A.ga p.G.length A.gc].toArray 25 (0, 0)), rdA A.ga (gv p.G), rdA A.ra (iv p.R)]) (fun k => p.G.length - k)
  · exact fun w' hw' => ⟨0, by omega, ⟨rfl, rfl, trivial⟩, hw'⟩
  intro k g1 hk
  by_cases hki : k < p.G.length
  · obtain ⟨bg, og, hga⟩ := hr.g.form (rows_ne gat_len (by omega) hki)
    rw [hga]
    obtain ⟨z, hz⟩ : ∃ z, p.G[k] = z := ⟨_, rfl⟩
    have htk : byG (p.G.take (k + 1)) n = if z.n = n then 2 else byG (p.G.take k) n := by
      unfold byG
      rw [List.take_add_one, List.getElem?_eq_getElem hki, List.any_append, hz]
      by_cases h : z.n = n
      · rw [if_pos h, if_pos (by simp [h])]
      · rw [if_neg h]; simp [h]
    repeat'(first|refine kv' ?_|apply jJ|refine jE' ?_|refine jp' ?_|(apply jc;kernel_rfl)|refine kg' ?_|refine kG' ?_|refine kB' fun _=>?_|refine kA' fun _=>?_|refine kK' fun _=>?_|refine kU' ?_|(apply idxX;(iterate 2 exact rfl);(iterate 2(first|omega|(dsimp only;omega)));exact rfl)|(apply addX;(iterate 2 exact rfl);(iterate 2(first|omega|(dsimp only;omega)));exact rfl)|(apply LR.ev; (· apply Ev.load (v := .int .i64 z.n); (· exact rfl); (· intro w' hw'; refine gat_cell (hw'.rd_of memZ) hki 0 ?_ ?_; (· rw [hz]; rfl); (· simp; done))); (· exact rfl))|((first|refine kR' ?_ ?_|refine kQ' ?_ ?_);all_goals(intro hc;try simp only[hcs]at hc;try(exfalso;first|contradiction|omega))))
    all_goals (
      refine At.again (k + 1) (by omega) ?_ ⟨?_, rfl, trivial⟩ (fun w' hw' => hw') (by omega)
      · (repeat (first | exact Out.refl _ _ | exact Out.mix | (apply Out.upd; (· exact rfl)) | (apply Out.updL; (· exact rfl)) | (apply Out.mixs; (· exact rfl))))
      · rw [htk]
        first | (rw [if_pos (by assumption)]; rfl) | (rw [if_neg (by assumption)]; rfl))
  have hke : k = p.G.length := by omega
  subst hke
  rw [List.take_length]
  repeat'(first|refine kv' ?_|apply jJ|refine jE' ?_|refine jp' ?_|(apply jc;kernel_rfl)|refine kg' ?_|refine kG' ?_|refine kB' fun _=>?_|refine kA' fun _=>?_|refine kK' fun _=>?_|refine kU' ?_|((first|refine kR' ?_ ?_|refine kQ' ?_ ?_);all_goals(intro hc;try simp only[hcs]at hc;try(exfalso;first|contradiction|omega))))
  (apply ret2; (· exact rfl); intro w' hS)
  exact ⟨rfl, hS.toKeep⟩
theorem ns0_len (i : Nat) : (ns0 i).length = i := by simp [ns0]
theorem ns0_snoc (i : Nat) : ns0 (i + 1) = ns0 i ++ [(i : Int)] := by unfold ns0; rw [List.range_succ, List.map_append]; rfl
theorem nsG_len (ns : List Int) (g : Gat) : (nsG ns g).length = ns.length := by simp [nsG]
def nsI (ns : List Int) (g : Gat) (i : Nat) : List Int := (nsG ns g).take i ++ ns.drop i
theorem nsI_len (ns : List Int) (g : Gat) {i : Nat} (h : i ≤ ns.length) : (nsI ns g i).length = ns.length := by
  unfold nsI; rw [List.length_append, List.length_take, List.length_drop, nsG_len]; omega
theorem nsI_get (ns : List Int) (g : Gat) {i : Nat} (h : i < ns.length) : (nsI ns g i)[i]? = some ns[i] := by
  unfold nsI
  have ht : ((nsG ns g).take i).length = i := by rw [List.length_take, nsG_len]; omega
  rw [List.getElem?_append_right (by omega), ht, Nat.sub_self, List.getElem?_drop, Nat.add_zero, List.getElem?_eq_getElem h]
theorem nsI_set (ns : List Int) (g : Gat) {i : Nat} (h : i < ns.length) : nsI ns g (i + 1) = if ns[i] = max (ns.getD g.a.toNat 0) (ns.getD g.b.toNat 0) then (nsI ns g i).set i (min (ns.getD g.a.toNat 0) (ns.getD g.b.toNat 0)) else nsI ns g i := by
  have hl : i < (nsG ns g).length := by rw [nsG_len]; exact h
  have hv : (nsG ns g)[i] = if ns[i] = max (ns.getD g.a.toNat 0) (ns.getD g.b.toNat 0) then min (ns.getD g.a.toNat 0) (ns.getD g.b.toNat 0) else ns[i] := by simp [nsG]
  unfold nsI
  rw [List.take_add_one, List.getElem?_eq_getElem hl, hv, List.drop_eq_getElem_cons h]
  have ht : ((nsG ns g).take i).length = i := by rw [List.length_take]; omega
  split
  · rw [List.set_append_right _ _ (by omega), ht, Nat.sub_self, List.append_assoc]
    rfl
  · simp
theorem maxI' (a b : Int) : (if b > a then b else a) = max a b := by split <;> omega
theorem minI' (a b : Int) : (if b < a then b else a) = min a b := by split <;> omega
set_option maxHeartbeats 2000000 in
theorem m51 (p : Pln) (A : PlA) (w : World) (hr : PlR w p A) (hi : PlI p) (hl1 : 1 ≤ p.R.length) (hl4 : p.R.length ≤ 4) (hG : ∀ g ∈ p.G, (0 ≤ g.a ∧ g.a < p.R.length) ∧ (0 ≤ g.b ∧ g.b < p.R.length)) :
    CallsTo Try.prog 51 [p.val A] w fun v w' => v = .bool (forAll p.G (ns0 p.R.length)) ∧ Grew w w' := by
  refine go_in (n := 68) (pl_in hr) Try.func51 rfl rfl ?_
  have hgl := hi.gl
  rw [show p.val A = .agg [.slice A.ra p.R.length A.rc, .slice A.ga p.G.length A.gc].toArray from rfl]
  repeat'(first|refine kv' ?_|apply jJ|refine jE' ?_|refine jp' ?_|(apply jc;kernel_rfl)|refine kg' ?_|refine kG' ?_|refine kB' fun _=>?_|refine kA' fun _=>?_|refine kK' fun _=>?_|refine kU' ?_|((first|refine kR' ?_ ?_|refine kQ' ?_ ?_);all_goals(intro hc;try simp only[hcs]at hc;try(exfalso;first|contradiction|omega))))
  rename_i b1
  apply CW.loop [3, 4, 9, 10, 11, 12, 13, 14, 15, 16, 17, 18, 19] (fun s : Cst => s.k ≤ p.R.length) (fun s => [(3, .slice s.a (ns0 s.k).length s.c), (4, .int .i64 (s.k : Int))])
    (fun s => St w NoF [ilK s.a s.c (ns0 s.k), .own b1 (.cells [Value.slice A.ra p.R.length A.rc, .slice A.ga p.G.length A.gc].toArray 25 (0, 0)), rdA A.ga (gv p.G), rdA A.ra (iv p.R)]) (fun s => p.R.length - s.k)
  · exact fun w' hw' => ⟨⟨0, none, 0⟩, by simp, ⟨rfl, rfl, trivial⟩, hw'.nilsl 3 1⟩
  rintro ⟨k, a2, c2⟩ g2 hk
  simp only at hk ⊢
  by_cases hlt : k < p.R.length
  · have hlk := ns0_len k
    have hsn := ns0_snoc k
    generalize ns0 k = L at hlk hsn ⊢
    repeat'(first|(apply Go.Hb.kK;(iterate 4 exact rfl);intro bs)|refine kv' ?_|apply jJ|refine jE' ?_|refine jp' ?_|(apply jc;kernel_rfl)|refine kg' ?_|refine kG' ?_|refine kB' fun _=>?_|refine kA' fun _=>?_|refine kK' fun _=>?_|refine kU' ?_|(apply addX;(iterate 2 exact rfl);(iterate 2(first|omega|(dsimp only;omega)));exact rfl)|(apply LR.append (xs := iv L) (news := [Value.int .i64 (k : Int)]) (m := 1); (· exact rfl); (· exact rfl); (· intro a' c'; (repeat (first | exact sH _ _ _ | apply sT))); (· exact fun w' hw' => hw'.rd_of_blk (mH _ _)); (· exact fun hx => by cases hx); (· exact rfl); (· exact rfl); (· omega); (· unfold maxLen; omega); (· exact rfl); (intro a3 c3))|((first|refine kR' ?_ ?_|refine kQ' ?_ ?_);all_goals(intro hc;try simp only[hcs]at hc;try(exfalso;first|contradiction|omega))))
    refine At.again (⟨k + 1, a3, c3⟩ : Cst) (by simp only; omega) ?_ ⟨?_, rfl, trivial⟩ ?_ (by simp only; omega)
    · (repeat (first | exact Out.refl _ _ | exact Out.mix | (apply Out.upd; (· exact rfl)) | (apply Out.updL; (· exact rfl)) | (apply Out.mixs; (· exact rfl))))
    · simp only
      rw [hsn, List.length_append]
      rfl
    · intro w' hw'
      simp only
      rw [hsn]
      have e : ilK a3 c3 (L ++ [(k : Int)]) = osl (.slice a3 (L.length + 1) c3) 3 1 (L.length + 1) (iv L ++ [Value.int .i64 (k : Int)]) := by simp [ilK, iv]
      rw [e]
      exact hw'.sub subZ
  have hke : k = p.R.length := by omega
  subst hke
  repeat'(first|refine kv' ?_|apply jJ|refine jE' ?_|refine jp' ?_|(apply jc;kernel_rfl)|refine kg' ?_|refine kG' ?_|refine kB' fun _=>?_|refine kA' fun _=>?_|refine kK' fun _=>?_|refine kU' ?_|((first|refine kR' ?_ ?_|refine kQ' ?_ ?_);all_goals(intro hc;try simp only[hcs]at hc;try(exfalso;first|contradiction|omega))))
  have hp0 := ns0_len p.R.length
  refine CW_fact (φ := ∃ bx ox, a2 = some ⟨bx, ox, none⟩) (fun w1 hw1 => (ownsRow_rd (hw1.holds (ilK a2 c2 (ns0 p.R.length)) memZ)).form (fun e => by have := congrArg List.length e; simp only [iv_length, List.length_nil] at this; omega)) ?_
  rintro ⟨bx, ox, rfl⟩
  generalize hps : ns0 p.R.length = P0 at hp0 ⊢
  apply CW.loop [2, 5, 6, 7, 8, 20, 21, 22, 23, 24, 25, 26, 27, 28, 29, 30, 31, 32, 33, 34, 35, 36, 37, 38, 39, 40, 41, 42, 43, 44, 45, 46, 47, 48, 49, 50, 51, 52, 53, 54, 55, 56, 57, 58, 59, 60, 61, 62, 63, 64, 65, 66, 67] (fun s : Nat × List Int => s.1 ≤ p.G.length ∧ s.2.length = p.R.length ∧ forAll p.G P0 = forAll (p.G.drop s.1) s.2) (fun s => [(5, .int .i64 (s.1 : Int))])
    (fun s => St w NoF [osl (.slice (some ⟨bx, ox, none⟩) p.R.length c2) 3 1 p.R.length (iv s.2), .own b1 (.cells [Value.slice A.ra p.R.length A.rc, .slice A.ga p.G.length A.gc].toArray 25 (0, 0)), rdA A.ga (gv p.G), rdA A.ra (iv p.R)]) (fun s => p.G.length - s.1)
  · exact fun w' hw' => ⟨(0, P0), ⟨Nat.zero_le _, hp0, rfl⟩, ⟨rfl, trivial⟩, by have h2 : St w NoF (osl (.slice (some ⟨bx, ox, none⟩) P0.length c2) 3 1 P0.length (iv P0) :: _) w' := hw'; rw [hp0] at h2; exact h2⟩
  rintro ⟨j, ns⟩ g3 ⟨hj, hpl, hgw⟩
  simp only at hj hpl hgw ⊢
  rw [hgw]
  by_cases hjt : j < p.G.length
  · obtain ⟨bg, og, hga⟩ := hr.g.form (rows_ne gat_len (by omega) hjt)
    rw [hga]
    rw [List.drop_eq_getElem_cons hjt]
    have hyr := hG _ (List.getElem_mem hjt)
    obtain ⟨y, hy⟩ : ∃ y, p.G[j] = y := ⟨_, rfl⟩
    rw [hy] at hyr ⊢
    obtain ⟨n, a, b, rfl⟩ : ∃ (n : Int) (a b : Nat), y = ⟨n, a, b⟩ := ⟨y.n, y.a.toNat, y.b.toNat, by
      obtain ⟨yn, ya, yb⟩ := y
      simp only at *
      rw [Int.toNat_of_nonneg (by omega), Int.toNat_of_nonneg (by omega)]⟩
    simp only at hyr
    have han : a < ns.length := by omega
    have hbn : b < ns.length := by omega
    obtain ⟨x, hx⟩ : ∃ x, ns[a] = x := ⟨_, rfl⟩
    obtain ⟨z, hz⟩ : ∃ z, ns[b] = z := ⟨_, rfl⟩
    have hxa : ns.getD a 0 = x := by rw [getD_nat _ han, hx]
    have hzb : ns.getD b 0 = z := by rw [getD_nat _ hbn, hz]
    have hfor : forAll (⟨n, a, b⟩ :: p.G.drop (j + 1)) ns = (decide (x ≠ z) && forAll (p.G.drop (j + 1)) (nsG ns ⟨n, a, b⟩)) := by
      rw [forAll]
      simp only [Int.toNat_natCast, hxa, hzb]
    rw [hfor]
    repeat'(first|refine kv' ?_|apply jJ|refine jE' ?_|refine jp' ?_|(apply jc;kernel_rfl)|refine kg' ?_|refine kG' ?_|refine kB' fun _=>?_|refine kA' fun _=>?_|refine kK' fun _=>?_|refine kU' ?_|(apply idxX;(iterate 2 exact rfl);(iterate 2(first|omega|(dsimp only;omega)));exact rfl)|(apply LR.ev; (· first | (apply Ev.load_osl; (· exact rfl); (· (repeat (first | exact mH _ _ | apply mT))); (· first | (refine (iv_at (l := ns) (i := a) ?_ ?_).trans ?_; (· simp; done); (· omega); (· rw [hx]; done)) | (refine (iv_at (l := ns) (i := b) ?_ ?_).trans ?_; (· simp; done); (· omega); (· rw [hz]; done)))) | (apply Ev.load (v := .int .i64 (a : Int)); (· exact rfl); (· intro w' hw'; refine gat_cell (hw'.rd_of memZ) hjt 1 ?_ ?_; (· rw [hy]; rfl); (· simp; done))) | (apply Ev.load (v := .int .i64 (b : Int)); (· exact rfl); (· intro w' hw'; refine gat_cell (hw'.rd_of memZ) hjt 2 ?_ ?_; (· rw [hy]; rfl); (· simp; done)))); (· exact rfl))|((first|refine kR' ?_ ?_|refine kQ' ?_ ?_);all_goals(intro hc;try simp only[hcs]at hc;try(exfalso;first|contradiction|omega))))
    · (apply ret1; (· exact rfl); intro w' hS)
      have hxz : x = z := by assumption
      refine ⟨congrArg Value.bool ?_, hS.toKeep⟩
      rw [decide_eq_false (by simp [hxz])]
      rfl
    obtain ⟨gg, hgg⟩ : ∃ gg : Gat, gg = ⟨n, a, b⟩ := ⟨_, rfl⟩
    have hga2 : ns.getD gg.a.toNat 0 = x := by rw [hgg]; simpa using hxa
    have hgb2 : ns.getD gg.b.toNat 0 = z := by rw [hgg]; simpa using hzb
    rw [← hgg]
    apply CW.loop [8, 48, 49, 50, 51, 52, 53, 54, 55, 56, 57, 58, 59, 60, 61, 62, 63, 64, 65, 66, 67] (fun i : Nat => i ≤ p.R.length) (fun i => [(8, .int .i64 (i : Int))])
      (fun i => St w NoF [osl (.slice (some ⟨bx, ox, none⟩) p.R.length c2) 3 1 p.R.length (iv (nsI ns gg i)), .own b1 (.cells [Value.slice A.ra p.R.length A.rc, .slice (some ⟨bg, og, none⟩) p.G.length A.gc].toArray 25 (0, 0)), rdA (some ⟨bg, og, none⟩) (gv p.G), rdA A.ra (iv p.R)]) (fun i => p.R.length - i)
    · exact fun w' hw' => ⟨0, by omega, ⟨rfl, trivial⟩, by rw [show nsI ns gg 0 = ns by unfold nsI; simp]; exact hw'⟩
    rintro i g5 hil
    by_cases hlt : i < p.R.length
    · have hset := nsI_set ns gg (i := i) (by omega)
      have hget := nsI_get ns gg (i := i) (by omega)
      have hpn := nsI_len ns gg (i := i) (by omega)
      rw [hga2, hgb2] at hset
      have hiv : (iv (nsI ns gg i))[(i : Int).toNat * 1]? = some (.int .i64 (ns[i]'(by omega))) := by
        rw [show (i : Int).toNat * 1 = i by omega]
        unfold iv
        rw [List.getElem?_map, hget]
        rfl
      obtain ⟨v, hv⟩ : ∃ v, ns[i]'(by omega) = v := ⟨_, rfl⟩
      rw [hv] at hset hiv
      repeat'(first|refine kv' ?_|apply jJ|refine jE' ?_|refine jp' ?_|(apply jc;kernel_rfl)|refine kg' ?_|refine kG' ?_|refine kB' fun _=>?_|refine kA' fun _=>?_|refine kK' fun _=>?_|refine kU' ?_|(apply idxX;(iterate 2 exact rfl);(iterate 2(first|omega|(dsimp only;omega)));exact rfl)|(apply addX;(iterate 2 exact rfl);(iterate 2(first|omega|(dsimp only;omega)));exact rfl)|(apply LR.ev; (· first | (apply Ev.load_osl; (· exact rfl); (· (repeat (first | exact mH _ _ | apply mT))); (· exact hiv)) | (apply Ev.max2; (· exact rfl); (· exact rfl)) | (apply Ev.min2; (· exact rfl); (· exact rfl))); (· exact rfl))|((first|refine kR' ?_ ?_|refine kQ' ?_ ?_);all_goals(intro hc;try simp only[hcs]at hc;try(exfalso;first|contradiction|omega))))
      · have hvm : v = max x z := by rw [← maxI']; assumption
        rw [if_pos hvm] at hset
        refine LR.store_obj (v := .int .i64 (min x z)) (z' := osl (.slice (some ⟨bx, ox, none⟩) p.R.length c2) 3 1 p.R.length (iv ((nsI ns gg i).set i (min x z)))) rfl (congrArg (Value.int .i64) (minI' x z)) (Sel.head _ _ _) rfl ?_ (osl.dep _ _ _ _ _) ?_
        · have st := Stores.osl (P := Try.prog) (T := 3) (q := 1) (b := bx) (o := ox) (i := (i : Int).toNat * 1) (n := p.R.length) (c := c2) (v := .int .i64 (min x z)) (vs := [.int .i64 (min x z)]) (xs := iv (nsI ns gg i)) (E := 3) (sz := 1) inferInstance rfl rfl rfl (by simp; omega)
          rw [show (i : Int).toNat * 1 = i by omega] at st ⊢
          rwa [splice_iv _ _ _ (by omega)] at st
        repeat'(first|refine kv' ?_|apply jJ|refine jE' ?_|refine jp' ?_|(apply jc;kernel_rfl)|refine kg' ?_|refine kG' ?_|refine kB' fun _=>?_|refine kA' fun _=>?_|refine kK' fun _=>?_|refine kU' ?_|(apply addX;(iterate 2 exact rfl);(iterate 2(first|omega|(dsimp only;omega)));exact rfl)|((first|refine kR' ?_ ?_|refine kQ' ?_ ?_);all_goals(intro hc;try simp only[hcs]at hc;try(exfalso;first|contradiction|omega))))
        refine At.again (i + 1) (by omega) ?_ ⟨rfl, trivial⟩ (fun w' hw' => ?_) (by omega)
        · (repeat (first | exact Out.refl _ _ | exact Out.mix | (apply Out.upd; (· exact rfl)) | (apply Out.updL; (· exact rfl)) | (apply Out.mixs; (· exact rfl))))
        · rw [hset]; exact hw'
      · have hvm : ¬ v = max x z := by rw [← maxI']; assumption
        rw [if_neg hvm] at hset
        refine At.again (i + 1) (by omega) ?_ ⟨rfl, trivial⟩ (fun w' hw' => ?_) (by omega)
        · (repeat (first | exact Out.refl _ _ | exact Out.mix | (apply Out.upd; (· exact rfl)) | (apply Out.updL; (· exact rfl)) | (apply Out.mixs; (· exact rfl))))
        · rw [hset]; exact hw'
    have hie : i = p.R.length := by omega
    subst hie
    repeat'(first|refine kv' ?_|apply jJ|refine jE' ?_|refine jp' ?_|(apply jc;kernel_rfl)|refine kg' ?_|refine kG' ?_|refine kB' fun _=>?_|refine kA' fun _=>?_|refine kK' fun _=>?_|refine kU' ?_|(apply addX;(iterate 2 exact rfl);(iterate 2(first|omega|(dsimp only;omega)));exact rfl)|((first|refine kR' ?_ ?_|refine kQ' ?_ ?_);all_goals(intro hc;try simp only[hcs]at hc;try(exfalso;first|contradiction|omega))))
    have hxz : ¬ x = z := by assumption
    refine At.again (j + 1, nsG ns gg) ⟨by show j + 1 ≤ _; omega, by show (nsG ns gg).length = _; rw [nsG_len]; exact hpl, ?_⟩ ?_ ⟨rfl, trivial⟩ (fun w' hw' => ?_) (by show p.G.length - (j + 1) < p.G.length - j; omega)
    · show (decide (x ≠ z) && _) = _
      rw [decide_eq_true hxz, Bool.true_and]
    · (repeat (first | exact Out.refl _ _ | exact Out.mix | (apply Out.upd; (· exact rfl)) | (apply Out.updL; (· exact rfl)) | (apply Out.mixs; (· exact rfl))))
    · have e : nsI ns gg p.R.length = nsG ns gg := by
        unfold nsI
        rw [← hpl, List.drop_length, List.append_nil, ← nsG_len ns gg, List.take_length]
      rw [e] at hw'
      exact hw'
  · have hje : j = p.G.length := by omega
    subst hje
    rw [List.drop_length]
    repeat'(first|refine kv' ?_|apply jJ|refine jE' ?_|refine jp' ?_|(apply jc;kernel_rfl)|refine kg' ?_|refine kG' ?_|refine kB' fun _=>?_|refine kA' fun _=>?_|refine kK' fun _=>?_|refine kU' ?_|((first|refine kR' ?_ ?_|refine kQ' ?_ ?_);all_goals(intro hc;try simp only[hcs]at hc;try(exfalso;first|contradiction|omega))))
    (apply ret1; (· exact rfl); intro w' hS)
    exact ⟨rfl, hS.toKeep⟩
end Go.Proofs.Ytgblmkpfkcibiaa

namespace Go.Proofs.Ytgblmkpfkcibiaa
open Go.Hb
attribute [local irreducible] LR CW At Ev thn blk finK noG again CallsTo DW QL dnext TW DP
set_option maxRecDepth 100000

theorem gatAll_take (R : List Int) (G : List Gat) {k : Nat} (h : k < G.length) : gatAll R (G.take k) (G.drop k) = ((!(G.take k).any (fun q => decide (q.n = (G[k]'h).n)) && gat1 R (G[k]'h)) && gatAll R (G.take (k + 1)) (G.drop (k + 1))) := by
  rw [List.drop_eq_getElem_cons h]
  show (_ && gatAll R (G.take k ++ [G[k]]) _) = _
  rw [List.take_add_one, List.getElem?_eq_getElem h]
  rfl
theorem gatAll_rng {R : List Int} : ∀ {Q P : List Gat}, gatAll R P Q = true → ∀ g ∈ Q, (0 ≤ g.a ∧ g.a < R.length) ∧ (0 ≤ g.b ∧ g.b < R.length)
  | g :: r, P, h, x, hx => by
    unfold gatAll at h
    simp only [Bool.and_eq_true] at h
    rcases List.mem_cons.1 hx with rfl | hx
    · have h2 := h.1.2
      unfold gat1 ringG at h2
      simp only [Bool.and_eq_true, decide_eq_true_eq] at h2
      exact ⟨h2.1, h2.2.1⟩
    · exact gatAll_rng h.2 x hx
def onTo (R : List Int) (G : List Gat) (k : Nat) : Bool := (List.range k).all fun k => !decide (1 < cntR R (k + 1 : Nat)) || decide (cntR R (k + 1 : Nat) = byG G (k + 1 : Nat))
theorem onTo_succ (R : List Int) (G : List Gat) (k : Nat) : onTo R G (k + 1) = (onTo R G k && (!decide (1 < cntR R (k + 1 : Nat)) || decide (cntR R (k + 1 : Nat) = byG G (k + 1 : Nat)))) := by
  unfold onTo; rw [List.range_succ, List.all_append]; simp
theorem onTo_no {R : List Int} {G : List Gat} {k : Nat} (hk : k < 8) (h : (!decide (1 < cntR R (k + 1 : Nat)) || decide (cntR R (k + 1 : Nat) = byG G (k + 1 : Nat))) = false) : onAll R G = false := by
  unfold onAll
  rw [List.all_eq_false]
  exact ⟨k, List.mem_range.2 hk, by rw [h]; simp⟩
set_option maxHeartbeats 2000000 in
theorem m14 (p : Pln) (A : PlA) (w : World) (hr : PlR w p A) (hi : PlI p) : CallsTo Try.prog 14 [p.val A] w fun v w' => v = .int .i64 (if chkR p.R p.G then 0 else 230) ∧ Grew w w' := by
  refine go_in (n := 71) (pl_in hr) Try.func14 rfl rfl ?_
  have hrl := hi.rl
  have hgl := hi.gl
  rw [show p.val A = .agg [.slice A.ra p.R.length A.rc, .slice A.ga p.G.length A.gc].toArray from rfl]
  unfold chkR
  by_cases hl : 1 ≤ p.R.length ∧ p.R.length ≤ 4
  rotate_left
  · rw [decide_eq_false hl, Bool.false_and, if_neg (by simp)]
    repeat'(first|refine kv' ?_|apply jJ|refine jE' ?_|refine jp' ?_|(apply jc;kernel_rfl)|refine kg' ?_|refine kG' ?_|refine kB' fun _=>?_|refine kA' fun _=>?_|refine kK' fun _=>?_|refine kU' ?_|((first|refine kR' ?_ ?_|refine kQ' ?_ ?_);all_goals(intro hc;try simp only[hcs]at hc;try(exfalso;first|contradiction|omega))))
    all_goals (first
      | (exfalso; omega)
      | ((apply ret1; (· exact rfl); intro w' hS)
         exact ⟨rfl, hS.toKeep⟩))
  rw [decide_eq_true hl, Bool.true_and]
  obtain ⟨ba, oa, hra⟩ := hr.r.form (fun e => by have := congrArg List.length e; simp only [iv_length, List.length_nil] at this; omega)
  rw [hra]
  repeat'(first|(refine kB' fun b1 => ?_)|refine kv' ?_|apply jJ|refine jE' ?_|refine jp' ?_|(apply jc;kernel_rfl)|refine kg' ?_|refine kG' ?_|refine kB' fun _=>?_|refine kA' fun _=>?_|refine kK' fun _=>?_|refine kU' ?_|((first|refine kR' ?_ ?_|refine kQ' ?_ ?_);all_goals(intro hc;try simp only[hcs]at hc;try(exfalso;first|contradiction|omega))))
  apply CW.loop [2, 3, 18, 19, 20, 21, 22, 23, 24, 25, 26, 27, 28, 29, 30, 31, 32, 33, 34, 35, 36, 37, 38, 39] (fun i : Nat => i ≤ p.R.length ∧ (p.R.take i).all membersC = true) (fun i : Nat => [(3, Value.int .i64 (i : Int))])
    (fun _ => St w NoF [.own b1 (.cells [Value.slice (some ⟨ba, oa, none⟩) p.R.length A.rc, .slice A.ga p.G.length A.gc].toArray 25 (0, 0)), rdA A.ga (gv p.G), rdA (some ⟨ba, oa, none⟩) (iv p.R)]) (fun i => p.R.length - i)
  · exact fun w' hw' => ⟨0, ⟨by omega, rfl⟩, ⟨rfl, trivial⟩, hw'⟩
  rintro i g1 ⟨hil, hall⟩
  by_cases hlt : i < p.R.length
  · have htk : (p.R.take (i + 1)).all membersC = membersC p.R[i] := by
      rw [List.take_add_one, List.getElem?_eq_getElem hlt, List.all_append, hall]; simp
    have hno : membersC p.R[i] = false → p.R.all membersC = false := fun h => by
      rw [List.all_eq_false]
      exact ⟨p.R[i], List.getElem_mem hlt, by rw [h]; simp⟩
    unfold membersC at htk hno
    repeat'(first|refine kv' ?_|apply jJ|refine jE' ?_|refine jp' ?_|(apply jc;kernel_rfl)|refine kg' ?_|refine kG' ?_|refine kB' fun _=>?_|refine kA' fun _=>?_|refine kK' fun _=>?_|refine kU' ?_|(apply idxX;(iterate 2 exact rfl);(iterate 2(first|omega|(dsimp only;omega)));exact rfl)|(apply LR.ev; (· apply Ev.load_rd; (· exact rfl); (· repeat (first | exact mH _ _ | apply mT)); (· exact iv_at (i := i) (by simp) (by omega))); (· exact rfl))|(apply addX;(iterate 2 exact rfl);(iterate 2(first|omega|(dsimp only;omega)));exact rfl)|(apply kq; (· exact rfl); (· intro w1 h1; show CallsTo Try.prog 48 [.int .i64 p.R[i]] w1 _; exact CallsTo.q (q83 p.R[i] w1) h1))|((first|refine kR' ?_ ?_|refine kQ' ?_ ?_);all_goals(intro hc;try simp only[hcs]at hc;try(exfalso;first|contradiction|omega))))
    all_goals (first
      | ((apply ret1; (· exact rfl); intro w' hS)
         have h : (decide (p.R[i] ≠ 0) && crewOk p.R[i]) = false := by clear hall htk hno hS; cases hx : crewOk p.R[i] <;> simp_all
         have h2 : p.R.all membersC = false := hno h
         rw [h2]
         exact ⟨rfl, hS.toKeep⟩)
      | (have h : (decide (p.R[i] ≠ 0) && crewOk p.R[i]) = true := by clear hall htk hno; cases hx : crewOk p.R[i] <;> simp_all
         refine At.again (i + 1) ⟨by omega, ?_⟩ ?_ ⟨rfl, trivial⟩ (fun w' hw' => hw') (by omega)
         · exact htk.trans h
         · (repeat (first | exact Out.refl _ _ | exact Out.mix | (apply Out.upd; (· exact rfl)) | (apply Out.updL; (· exact rfl)) | (apply Out.mixs; (· exact rfl))))
         ))
  have hie : i = p.R.length := by omega
  subst hie
  rw [List.take_length] at hall
  rw [hall, Bool.true_and]
  repeat'(first|refine kv' ?_|apply jJ|refine jE' ?_|refine jp' ?_|(apply jc;kernel_rfl)|refine kg' ?_|refine kG' ?_|refine kB' fun _=>?_|refine kA' fun _=>?_|refine kK' fun _=>?_|refine kU' ?_|((first|refine kR' ?_ ?_|refine kQ' ?_ ?_);all_goals(intro hc;try simp only[hcs]at hc;try(exfalso;first|contradiction|omega))))
  apply CW.loop [2, 4, 40, 41, 42, 43, 44, 45, 46, 47, 48, 49, 50] (fun i : Nat => i ≤ p.G.length ∧ gatAll p.R [] p.G = gatAll p.R (p.G.take i) (p.G.drop i)) (fun i : Nat => [(4, Value.int .i64 (i : Int))])
    (fun _ => St w NoF [.own b1 (.cells [Value.slice (some ⟨ba, oa, none⟩) p.R.length A.rc, .slice A.ga p.G.length A.gc].toArray 25 (0, 0)), rdA A.ga (gv p.G), rdA (some ⟨ba, oa, none⟩) (iv p.R)]) (fun i => p.G.length - i)
  · exact fun w' hw' => ⟨0, ⟨by omega, rfl⟩, ⟨rfl, trivial⟩, hw'⟩
  rintro i g2 ⟨hil, hga⟩
  by_cases hlt : i < p.G.length
  · rw [gatAll_take _ _ hlt] at hga
    repeat'(first|refine kv' ?_|apply jJ|refine jE' ?_|refine jp' ?_|(apply jc;kernel_rfl)|refine kg' ?_|refine kG' ?_|refine kB' fun _=>?_|refine kA' fun _=>?_|refine kK' fun _=>?_|refine kU' ?_|(apply addX;(iterate 2 exact rfl);(iterate 2(first|omega|(dsimp only;omega)));exact rfl)|(apply kq; (· exact rfl); (· intro w1 h1; show CallsTo Try.prog 49 [p.val ⟨some ⟨ba, oa, none⟩, A.rc, A.ga, A.gc⟩, .int .i64 i] w1 _; exact CallsTo.q (m49 p ⟨some ⟨ba, oa, none⟩, A.rc, A.ga, A.gc⟩ i w1 ⟨h1.rd_of memZ, h1.rd_of memZ⟩ hi hlt hl.1) h1))|((first|refine kR' ?_ ?_|refine kQ' ?_ ?_);all_goals(intro hc;try simp only[hcs]at hc;try(exfalso;first|contradiction|omega))))
    · (apply ret1; (· exact rfl); intro w' hS)
      have hn : gatAll p.R [] p.G = false := by
        rw [hga]
        simp_all
      rw [hn]
      exact ⟨rfl, hS.toKeep⟩
    · refine At.again (i + 1) ⟨by omega, ?_⟩ ?_ ⟨rfl, trivial⟩ (fun w' hw' => hw') (by omega)
      · rw [hga]
        have hq : (!(p.G.take i).any (fun q => decide (q.n = (p.G[i]'hlt).n)) && gat1 p.R (p.G[i]'hlt)) = true := by assumption
        rw [hq, Bool.true_and]
      · (repeat (first | exact Out.refl _ _ | exact Out.mix | (apply Out.upd; (· exact rfl)) | (apply Out.updL; (· exact rfl)) | (apply Out.mixs; (· exact rfl))))
  have hie : i = p.G.length := by omega
  subst hie
  rw [List.drop_length] at hga
  have hga2 : gatAll p.R [] p.G = true := by rw [hga]; rfl
  have hrng := gatAll_rng hga2
  rw [hga2, Bool.true_and]
  repeat'(first|refine kv' ?_|apply jJ|refine jE' ?_|refine jp' ?_|(apply jc;kernel_rfl)|refine kg' ?_|refine kG' ?_|refine kB' fun _=>?_|refine kA' fun _=>?_|refine kK' fun _=>?_|refine kU' ?_|((first|refine kR' ?_ ?_|refine kQ' ?_ ?_);all_goals(intro hc;try simp only[hcs]at hc;try(exfalso;first|contradiction|omega))))
  apply CW.loop [2, 5, 6, 7, 51, 52, 53, 54, 55, 56, 57, 58, 59, 60, 61, 62, 63, 64, 65, 66, 67] (fun i : Nat => i ≤ 8 ∧ onTo p.R p.G i = true) (fun i : Nat => [(5, Value.int .i64 ((i + 1 : Nat) : Int))])
    (fun _ => St w NoF [.own b1 (.cells [Value.slice (some ⟨ba, oa, none⟩) p.R.length A.rc, .slice A.ga p.G.length A.gc].toArray 25 (0, 0)), rdA A.ga (gv p.G), rdA (some ⟨ba, oa, none⟩) (iv p.R)]) (fun i => 8 - i)
  · exact fun w' hw' => ⟨0, ⟨by omega, rfl⟩, ⟨rfl, trivial⟩, hw'⟩
  rintro i g3 ⟨hil, hon⟩
  by_cases hlt : i < 8
  · have hsu := onTo_succ p.R p.G i
    have hno := onTo_no (R := p.R) (G := p.G) hlt
    rw [hon, Bool.true_and] at hsu
    generalize hcc : cntR p.R ((i + 1 : Nat) : Int) = cc at hsu hno
    generalize hbb : byG p.G ((i + 1 : Nat) : Int) = bb at hsu hno
    repeat'(first|refine kv' ?_|apply jJ|refine jE' ?_|refine jp' ?_|(apply jc;kernel_rfl)|refine kg' ?_|refine kG' ?_|refine kB' fun _=>?_|refine kA' fun _=>?_|refine kK' fun _=>?_|refine kU' ?_|(apply addX;(iterate 2 exact rfl);(iterate 2(first|omega|(dsimp only;omega)));exact rfl)|(apply kq; (· exact rfl); (· intro w1 h1; have hq := CallsTo.q (show CallsTo Try.prog 50 [p.val ⟨some ⟨ba, oa, none⟩, A.rc, A.ga, A.gc⟩, .int .i64 ((i + 1 : Nat) : Int)] w1 _ from m50 p ⟨some ⟨ba, oa, none⟩, A.rc, A.ga, A.gc⟩ ((i + 1 : Nat) : Int) w1 ⟨h1.rd_of memZ, h1.rd_of memZ⟩ hi) h1; rw [hcc, hbb] at hq; exact hq))|((first|refine kR' ?_ ?_|refine kQ' ?_ ?_);all_goals(intro hc;try simp only[hcs]at hc;try(exfalso;first|contradiction|omega))))
    all_goals (first
      | ((apply ret1; (· exact rfl); intro w' hS)
         rw [hno (by simp; omega), Bool.false_and]
         exact ⟨rfl, hS.toKeep⟩)
      | (refine At.again (i + 1) ⟨by omega, ?_⟩ ?_ ⟨?_, trivial⟩ (fun w' hw' => hw') (by omega)
         · rw [hsu]; simp; omega
         · (repeat (first | exact Out.refl _ _ | exact Out.mix | (apply Out.upd; (· exact rfl)) | (apply Out.updL; (· exact rfl)) | (apply Out.mixs; (· exact rfl))))
         · exact congrArg (Value.int .i64) (by omega)
         ))
  have hie : i = 8 := by omega
  subst hie
  have hon2 : onAll p.R p.G = true := hon
  rw [hon2, Bool.true_and]
  repeat'(first|refine kv' ?_|apply jJ|refine jE' ?_|refine jp' ?_|(apply jc;kernel_rfl)|refine kg' ?_|refine kG' ?_|refine kB' fun _=>?_|refine kA' fun _=>?_|refine kK' fun _=>?_|refine kU' ?_|(apply kq; (· exact rfl); (· intro w1 h1; exact CallsTo.q (show CallsTo Try.prog 51 [p.val ⟨some ⟨ba, oa, none⟩, A.rc, A.ga, A.gc⟩] w1 _ from m51 p ⟨some ⟨ba, oa, none⟩, A.rc, A.ga, A.gc⟩ w1 ⟨h1.rd_of memZ, h1.rd_of memZ⟩ hi hl.1 hl.2 hrng) h1))|((first|refine kR' ?_ ?_|refine kQ' ?_ ?_);all_goals(intro hc;try simp only[hcs]at hc;try(exfalso;first|contradiction|omega))))
  all_goals (
    (apply ret1; (· exact rfl); intro w' hS)
    refine ⟨congrArg (Value.int .i64) ?_, hS.toKeep⟩
    simp_all)
end Go.Proofs.Ytgblmkpfkcibiaa

namespace Go.Hb

structure PlOk (R : List Int) (G : List Gat) : Prop where
  l1 : 1 ≤ R.length
  l4 : R.length ≤ 4
  mem : R.all membersC = true
  fine : ∀ g ∈ G, Fine R g
  nd : (G.map Gat.n).Nodup
theorem twG_has {tw : Int} {g : Gat} (h1 : 1 ≤ g.n) (h8 : g.n ≤ 8) {n : Int} (h : hasC (twG tw g) n = true) : hasC tw n = true ∧ n ≠ g.n := by
  unfold hasC at *
  rw [Bool.and_eq_true, decide_eq_true_eq] at h
  obtain ⟨hr, hb⟩ := h
  unfold twG at hb
  rw [tb_andNot _ _ (by omega), tb_pow (by omega), Bool.and_eq_true] at hb
  rw [decide_eq_true hr, Bool.true_and]
  refine ⟨hb.1, fun e => ?_⟩
  have h2 := hb.2
  rw [e] at h2
  simp at h2
theorem gwAll_ok {R : List Int} : ∀ {Q : List Gat} {tw : Int} {ps : List Int}, gwAll R Q tw ps = true → (∀ g ∈ Q, Fine R g ∧ hasC tw g.n = true) ∧ (Q.map Gat.n).Nodup
  | [], tw, ps, _ => ⟨fun g hg => (by cases hg), List.nodup_nil⟩
  | g :: r, tw, ps, h => by
    unfold gwAll at h
    rw [Bool.and_eq_true] at h
    obtain ⟨hg, hr⟩ := h
    unfold gwOk at hg
    simp only [Bool.and_eq_true, decide_eq_true_eq, List.all_eq_true, List.mem_range, beq_iff_eq, Bool.not_eq_true'] at hg
    obtain ⟨⟨h1, h2, h3⟩, ⟨h4, h5⟩, h6⟩ := hg
    have hn : 1 ≤ g.n ∧ g.n ≤ 8 := by
      have h7 := h4
      unfold hasC at h7
      rw [Bool.and_eq_true, decide_eq_true_eq] at h7
      omega
    have hfg : Fine R g := ⟨h1, h2, h3, hn.1, hn.2, fun i hi => by rw [h5 i hi, decide_eq_true_eq]⟩
    have ih := gwAll_ok hr
    refine ⟨fun x hx => ?_, ?_⟩
    · rcases List.mem_cons.1 hx with rfl | hx
      · exact ⟨hfg, h4⟩
      · exact ⟨(ih.1 x hx).1, (twG_has hn.1 hn.2 (ih.1 x hx).2).1⟩
    · rw [List.map_cons, List.nodup_cons]
      refine ⟨fun hm => ?_, ih.2⟩
      obtain ⟨x, hx, he⟩ := List.mem_map.1 hm
      exact (twG_has hn.1 hn.2 (ih.1 x hx).2).2 he
theorem pl_ok {R : List Int} {G : List Gat} (h : chkP R G = true) : PlOk R G := by
  unfold chkP at h
  simp only [Bool.and_eq_true, decide_eq_true_eq] at h
  have h2 := gwAll_ok h.2.2
  exact ⟨h.1.1, h.1.2, h.2.1, fun g hg => (h2.1 g hg).1, h2.2⟩
def farG : List Gat → Int → Int → Option Int
  | [], _, _ => none
  | g :: t, n, r => if g.n = n ∧ g.a = r then some g.b else if g.n = n ∧ g.b = r then some g.a else farG t n r
def farT (R : List Int) (G : List Gat) (n r : Int) : Option Int := if chkP R G then farG G n r else none
theorem farG_drop (G : List Gat) (n r : Int) {i : Nat} (h : i < G.length) : farG (G.drop i) n r = if (G[i]'h).n = n ∧ (G[i]'h).a = r then some (G[i]'h).b else if (G[i]'h).n = n ∧ (G[i]'h).b = r then some (G[i]'h).a else farG (G.drop (i + 1)) n r := by
  rw [List.drop_eq_getElem_cons h, farG]
theorem farG_some {n r : Int} : ∀ {G : List Gat}, (farG G n r).isSome = true ↔ ∃ g ∈ G, g.n = n ∧ (g.a = r ∨ g.b = r)
  | [] => by simp [farG]
  | g :: t => by
    have ih := farG_some (n := n) (r := r) (G := t)
    unfold farG
    by_cases h1 : g.n = n ∧ g.a = r
    · rw [if_pos h1]
      simp only [Option.isSome_some, true_iff]
      exact ⟨g, List.mem_cons_self, h1.1, .inl h1.2⟩
    · rw [if_neg h1]
      by_cases h2 : g.n = n ∧ g.b = r
      · rw [if_pos h2]
        simp only [Option.isSome_some, true_iff]
        exact ⟨g, List.mem_cons_self, h2.1, .inr h2.2⟩
      · rw [if_neg h2, ih]
        constructor
        · rintro ⟨x, hx, h⟩; exact ⟨x, List.mem_cons_of_mem _ hx, h⟩
        · rintro ⟨x, hx, hn, h⟩
          rcases List.mem_cons.1 hx with rfl | hx
          · rcases h with h | h
            · exact (h1 ⟨hn, h⟩).elim
            · exact (h2 ⟨hn, h⟩).elim
          · exact ⟨x, hx, hn, h⟩
def gwRaw (G : List Gat) (r : Int) : List Int := (G.filter fun g => decide (g.a = r) || decide (g.b = r)).map Gat.n
def gwsTo (R : List Int) (G : List Gat) (r : Int) : Nat → List Int
  | 0 => []
  | k + 1 => gwsTo R G r k ++ if (farT R G ((k + 1 : Nat) : Int) r).isSome then [((k + 1 : Nat) : Int)] else []
def gwsT (R : List Int) (G : List Gat) (r : Int) : List Int := gwsTo R G r 8
theorem gwsTo_len (R : List Int) (G : List Gat) (r : Int) : ∀ k, (gwsTo R G r k).length ≤ k
  | 0 => by simp [gwsTo]
  | k + 1 => by
    have := gwsTo_len R G r k
    unfold gwsTo
    rw [List.length_append]
    split <;> simp <;> omega
theorem gwsTo_mem {R : List Int} {G : List Gat} {r x : Int} : ∀ {k : Nat}, x ∈ gwsTo R G r k ↔ (1 ≤ x ∧ x ≤ k) ∧ (farT R G x r).isSome = true
  | 0 => by simp [gwsTo]; omega
  | k + 1 => by
    unfold gwsTo
    rw [List.mem_append, gwsTo_mem]
    by_cases hx : x = ((k + 1 : Nat) : Int)
    · rw [hx]
      split
      · rename_i h; exact ⟨fun _ => ⟨by omega, h⟩, fun _ => .inr (List.mem_singleton.2 rfl)⟩
      · rename_i h
        refine ⟨fun h2 => ?_, fun h2 => absurd h2.2 h⟩
        rcases h2 with h2 | h2
        · exact absurd h2.2 h
        · cases h2
    · constructor
      · rintro (⟨h1, h2⟩ | h1)
        · exact ⟨by omega, h2⟩
        · split at h1
          · exact absurd (List.mem_singleton.1 h1) hx
          · cases h1
      · rintro ⟨h1, h2⟩
        exact .inl ⟨by omega, h2⟩
theorem gwsTo_asc (R : List Int) (G : List Gat) (r : Int) : ∀ k, (gwsTo R G r k).Pairwise (· < ·)
  | 0 => List.Pairwise.nil
  | k + 1 => by
    unfold gwsTo
    rw [List.pairwise_append]
    refine ⟨gwsTo_asc R G r k, by split <;> simp, fun a ha b hb => ?_⟩
    have h1 := (gwsTo_mem.1 ha).1
    split at hb
    · rw [List.mem_singleton] at hb; omega
    · cases hb
theorem asc_extM : ∀ {l m : List Int}, l.Pairwise (· < ·) → m.Pairwise (· < ·) → (∀ x, x ∈ l ↔ x ∈ m) → l = m
  | [], [], _, _, _ => rfl
  | [], y :: m, _, _, h => absurd ((h y).2 List.mem_cons_self) (by simp)
  | x :: l, [], _, _, h => absurd ((h x).1 List.mem_cons_self) (by simp)
  | x :: l, y :: m, hl, hm, h => by
    rw [List.pairwise_cons] at hl hm
    have e : x = y := by
      rcases List.mem_cons.1 ((h x).1 List.mem_cons_self) with e | hx
      · exact e
      · rcases List.mem_cons.1 ((h y).2 List.mem_cons_self) with e | hy
        · exact e.symm
        · have := hm.1 x hx; have := hl.1 y hy; omega
    subst e
    rw [asc_extM hl.2 hm.2 fun z => ?_]
    constructor
    · intro hz
      rcases List.mem_cons.1 ((h z).1 (List.mem_cons_of_mem _ hz)) with e | h2
      · have := hl.1 z hz; omega
      · exact h2
    · intro hz
      rcases List.mem_cons.1 ((h z).2 (List.mem_cons_of_mem _ hz)) with e | h2
      · have := hm.1 z hz; omega
      · exact h2
theorem gws_sort {R : List Int} {G : List Gat} (r : Int) (h : chkP R G = true) : (gwRaw G r).mergeSort (fun x y => decide (x ≤ y)) = gwsT R G r := by
  have hok := pl_ok h
  have hnd : (gwRaw G r).Nodup := by
    unfold gwRaw
    exact hok.nd.sublist ((List.filter_sublist).map Gat.n)
  have hp := List.mergeSort_perm (gwRaw G r) (fun x y => decide (x ≤ y))
  have hs : ((gwRaw G r).mergeSort (fun x y => decide (x ≤ y))).Pairwise (fun a b => decide (a ≤ b) = true) :=
    List.pairwise_mergeSort (fun a b c h1 h2 => by simp only [decide_eq_true_eq] at *; omega) (fun a b => by simp only [Bool.or_eq_true, decide_eq_true_eq]; omega) _
  have hnd2 : ((gwRaw G r).mergeSort (fun x y => decide (x ≤ y))).Nodup := hp.nodup_iff.2 hnd
  refine asc_extM ?_ (gwsTo_asc R G r 8) fun x => ?_
  · have h3 := List.Pairwise.and hs hnd2
    exact h3.imp fun {a b} h => by
      have h1 := h.1
      have h2 := h.2
      simp only [decide_eq_true_eq] at h1
      omega
  · rw [hp.mem_iff]
    unfold gwsT
    rw [gwsTo_mem]
    unfold farT
    rw [if_pos h, farG_some]
    unfold gwRaw
    rw [List.mem_map]
    constructor
    · rintro ⟨g, hg, rfl⟩
      obtain ⟨h1, h2⟩ := List.mem_filter.1 hg
      have hf := hok.fine g h1
      refine ⟨⟨hf.n1, by have := hf.n8; omega⟩, g, h1, rfl, by simpa using h2⟩
    · rintro ⟨_, g, hg, rfl, h2⟩
      exact ⟨g, List.mem_filter.2 ⟨hg, by simpa using h2⟩, rfl⟩
theorem gwsTo_bad {R : List Int} {G : List Gat} (r : Int) (h : chkP R G = false) : gwsT R G r = [] := by
  refine List.eq_nil_iff_forall_not_mem.2 fun x hx => ?_
  unfold gwsT at hx
  rw [gwsTo_mem] at hx
  unfold farT at hx
  rw [h] at hx
  simp at hx
def sidesTo (R : List Int) (n : Int) : Nat → List Int
  | 0 => []
  | k + 1 => sidesTo R n k ++ if hasC (R.getD k 0) n then [(k : Int)] else []
def sidesT (R : List Int) (G : List Gat) (n : Int) : List Int := if chkP R G then sidesTo R n R.length else []
theorem sidesTo_len (R : List Int) (n : Int) : ∀ k, (sidesTo R n k).length ≤ k
  | 0 => by simp [sidesTo]
  | k + 1 => by
    have := sidesTo_len R n k
    unfold sidesTo
    rw [List.length_append]
    split <;> simp <;> omega
end Go.Hb

namespace Go.Proofs.Ytgblmkpfkcibiaa
open Go.Hb
attribute [local irreducible] LR CW At Ev thn blk finK noG again CallsTo
set_option maxRecDepth 100000

def pcs (ps : List Plc) : List Value := ps.flatMap Plc.cells
theorem pcs_length (ps : List Plc) : (pcs ps).length = ps.length * 4 := by
  induction ps with
  | nil => rfl
  | cons p r ih => simp only [pcs, List.flatMap_cons, List.length_append, List.length_cons] at ih ⊢; rw [ih]; simp [Plc.cells]; omega
def plcsI (ps : List Plc) : Prop := ∀ p ∈ ps, i64 p.ring ∧ i64 p.seq ∧ i64 p.rep ∧ i64 p.members

def incr : Int → List Plc → Bool
  | _, [] => true
  | last, p :: r => decide (last < p.ring) && incr p.ring r
def plcNums (p : Plc) : List Int := [p.ring, p.seq, p.rep, p.members]
def plcsBytes (ps : List Plc) : List Int := enc ps.length ++ ps.flatMap fun p => encs (plcNums p)
def charts (ps : List Plc) : List Int × Int :=
  if 4 < ps.length then ([], 5) else if (ps.any fun p => !plcB p) = true then ([], 2) else if incr (-1) ps = false then ([], 2) else (plcsBytes ps, 0)
end Go.Proofs.Ytgblmkpfkcibiaa

namespace Go.Proofs.Ytgblmkpfkcibiaa
open Go.Hb
attribute [local irreducible] LR CW At Ev thn blk finK noG again CallsTo DW QL dnext
set_option maxRecDepth 100000

def decs : Nat → List Int → List Int × Int × List Int
  | 0, l => ([], 0, l)
  | n + 1, l => if (dec l).2.2 ≠ 0 then ([], (dec l).2.2, l.drop (dec l).2.1) else
    ((((dec l).1 : Nat) : Int) :: (decs n (l.drop (dec l).2.1)).1, (decs n (l.drop (dec l).2.1)).2)
theorem Byt.drop {l : List Int} (h : Byt l) (n : Nat) : Byt (l.drop n) := fun b hb => h b (List.mem_of_mem_drop hb)
def pv (l : List Addr) : List Value := l.map fun x => .pointer (some x)
@[simp] theorem pv_length (l : List Addr) : (pv l).length = l.length := by simp [pv]
def plcOf (v : List Int) : Plc := ⟨v.getD 0 0, v.getD 1 0, v.getD 2 0, v.getD 3 0⟩
def rows : Nat → List Int → List Plc × Int × List Int
  | 0, l => ([], 0, l)
  | n + 1, l => if (decs 4 l).2.1 ≠ 0 then ([], (decs 4 l).2.1, (decs 4 l).2.2) else (plcOf (decs 4 l).1 :: (rows n (decs 4 l).2.2).1, (rows n (decs 4 l).2.2).2)
def places (l : List Int) : List Plc × Int :=
  if (dec l).2.2 ≠ 0 then ([], (dec l).2.2)
  else if 4 < (dec l).1 then ([], 5)
  else if (rows (dec l).1 (l.drop (dec l).2.1)).2.1 ≠ 0 then ([], (rows (dec l).1 (l.drop (dec l).2.1)).2.1)
  else if (charts (rows (dec l).1 (l.drop (dec l).2.1)).1).2 ≠ 0 ∨ 0 < (rows (dec l).1 (l.drop (dec l).2.1)).2.2.length then ([], 4)
  else ((rows (dec l).1 (l.drop (dec l).2.1)).1, 0)
def zz (k : Nat) : List Value := List.replicate k (.int .i64 0)
end Go.Proofs.Ytgblmkpfkcibiaa

namespace Go.Proofs.Ytgblmkpfkcibiaa
open Go.Hb
attribute [local irreducible] LR CW At Ev thn blk finK noG again CallsTo DW QL dnext
set_option maxRecDepth 100000

end Go.Proofs.Ytgblmkpfkcibiaa

namespace Go.Proofs.Ytgblmkpfkcibiaa
open Go.Hb
attribute [local irreducible] LR CW At Ev thn blk finK noG again CallsTo DW QL dnext
set_option maxRecDepth 100000

end Go.Proofs.Ytgblmkpfkcibiaa

namespace Go.Proofs.Ytgblmkpfkcibiaa
open Go.Hb
attribute [local irreducible] LR CW At Ev thn blk finK noG again CallsTo DW QL dnext
set_option maxRecDepth 100000

instance : MapOf Try.prog 152 .i64 .nilFunc := ⟨⟨3, 150, Try.underlying152, Try.underlying3, Try.zeroValue150⟩⟩
end Go.Proofs.Ytgblmkpfkcibiaa

namespace Go.Proofs.Ytgblmkpfkcibiaa
open Go.Hb
attribute [local irreducible] LR CW At Ev thn blk finK noG again CallsTo DW QL dnext
set_option maxRecDepth 100000

end Go.Proofs.Ytgblmkpfkcibiaa

namespace Go.Proofs.Ytgblmkpfkcibiaa
open Go.Hb
attribute [local irreducible] LR CW At Ev thn blk finK noG again CallsTo DW QL dnext
set_option maxRecDepth 100000

theorem front_perm {α : Type} : ∀ (L : List α) (i : Nat) (hi : i < L.length), L.Perm (L[i] :: L.eraseIdx i)
  | x :: r, 0, _ => List.Perm.refl _
  | x :: r, i + 1, hi => ((front_perm r i (by simpa using hi)).cons x).trans (List.Perm.swap _ _ _)
theorem front {w0 w : World} {F : Nat → Prop} {L L' : List Asrt} (h : St w0 F L w) (i : Nat) (hi : Nat.blt i L.length = true) (e : L[i]'(blt_lt hi) :: L.eraseIdx i = L') : St w0 F L' w := (h.perm (front_perm L i (blt_lt hi))).cast e
def T2 (bm : Nat) (hd : List Value) (vs : List Int) : Asrt := .own bm (.cells (hd ++ iv vs ++ zz (4 - vs.length) ++ [Value.slice none 0 0]).toArray 66 (0, 0))
def tail6 : List Value := [.bool false, .int .i64 0, .int .i64 0, .int .i64 0, .int .i64 0, .slice none 0 0]
def T1 (bm bs : Nat) (vs : List Int) : Asrt := both (.own bm (.cells (iv (vs.take 7) ++ zz (7 - vs.length) ++ tail6).toArray 66 (0, 0))) (.own bs (.cells [.int .i64 (vs.getD 7 0)].toArray 3 (0, 0)))

end Go.Proofs.Ytgblmkpfkcibiaa

namespace Go.Proofs.Ytgblmkpfkcibiaa
open Go.Hb
attribute [local irreducible] LR CW At Ev thn blk finK noG again CallsTo DW QL dnext
set_option maxRecDepth 100000

end Go.Proofs.Ytgblmkpfkcibiaa

namespace Go.Proofs.Ytgblmkpfkcibiaa
open Go.Hb
attribute [local irreducible] LR CW At Ev thn blk finK noG again CallsTo DW QL dnext
set_option maxRecDepth 100000

end Go.Proofs.Ytgblmkpfkcibiaa

namespace Go.Proofs.Ytgblmkpfkcibiaa
open Go.Hb
attribute [local irreducible] LR CW At Ev thn blk finK noG again CallsTo DW QL dnext
set_option maxRecDepth 100000

end Go.Proofs.Ytgblmkpfkcibiaa

namespace Go.Proofs.Ytgblmkpfkcibiaa
open Go.Hb
attribute [local irreducible] LR CW At Ev thn blk finK noG again CallsTo
set_option maxRecDepth 100000

end Go.Proofs.Ytgblmkpfkcibiaa

namespace Go.Proofs.Ytgblmkpfkcibiaa
open Go.Hb
attribute [local irreducible] LR CW At Ev thn blk finK noG again CallsTo DW QL dnext
set_option maxRecDepth 100000

end Go.Proofs.Ytgblmkpfkcibiaa

namespace Go.Proofs.Ytgblmkpfkcibiaa
open Go.Hb
attribute [local irreducible] LR CW At Ev thn blk finK noG again CallsTo
set_option maxRecDepth 100000

def rmay (s r : Int) : Bool := !(decide (s = 0 ∧ r = 0)) && ringB s r
structure Tk where
  r1 : Int
  r2 : Int
  hop : Int
  seq : Int
  aru : Int
  low : Int
  stamp : Int
  idle : Int
  ask : List Int
deriving DecidableEq
def Tk.cells (t : Tk) (a : Option Addr) (c : Nat) : List Value := [.int .i64 t.r1, .int .i64 t.r2, .int .i64 t.hop, .int .i64 t.seq, .int .i64 t.aru, .int .i64 t.low, .int .i64 t.stamp, .int .i64 t.idle, .slice a t.ask.length c]
def Tk.val (t : Tk) (a : Option Addr) (c : Nat) : Value := .agg (t.cells a c).toArray
def Tk.headB (t : Tk) : Bool := rmay t.r1 t.r2 && withinB t.hop 1 9007199254740991 && withinB t.seq 0 9007199254740991 && withinB t.aru 0 t.seq && withinB t.low 0 8 && withinB t.stamp 0 9007199254740991 && withinB t.idle 0 9007199254740991 && decide (t.ask.length ≤ 16)
end Go.Proofs.Ytgblmkpfkcibiaa

namespace Go.Proofs.Ytgblmkpfkcibiaa
open Go.Hb
attribute [local irreducible] LR CW At Ev thn blk finK noG again CallsTo
set_option maxRecDepth 100000

abbrev il (a : Option Addr) (c : Nat) (l : List Int) : Asrt := osl (.slice a l.length c) 3 1 l.length (iv l)
theorem take_succ_eq' {l r : List Int} {i : Nat} (h : i < l.length) (hr : i < r.length) (he : l.take i = r.take i) (hx : l[i] = r[i]) : l.take (i + 1) = r.take (i + 1) := by
  rw [List.take_add_one, List.take_add_one, List.getElem?_eq_getElem h, List.getElem?_eq_getElem hr, he, hx]
theorem t19 (a b : Option Addr) (ca cb : Nat) (la lb : List Int) (w : World) (ha : Rd w a (iv la)) (hb : Rd w b (iv lb)) (hm : la.length ≤ 17592186043904) :
    CallsTo Try.prog 17 [.slice a la.length ca, .slice b lb.length cb] w fun v w' => v = .bool (decide (la = lb)) ∧ Grew w w' := by
  refine go_in (n := 26) (St.rd2 ha hb) Try.func17 rfl rfl ?_
  repeat'(first|refine kv' ?_|apply jJ|refine jE' ?_|refine jp' ?_|(apply jc;kernel_rfl)|refine kg' ?_|refine kG' ?_|refine kB' fun _=>?_|refine kA' fun _=>?_|refine kK' fun _=>?_|refine kU' ?_|((first|refine kR' ?_ ?_|refine kQ' ?_ ?_);all_goals(intro hc;try simp only[hcs]at hc;try(exfalso;first|contradiction|omega))))
  · (apply ret1; (· exact rfl); intro w' hS)
    refine ⟨congrArg Value.bool ?_, hS.toKeep⟩
    have : la ≠ lb := fun e => by subst e; simp at hc
    simp [this]
  · apply CW.loop [4, 5, 11, 12, 13, 14, 15, 16, 17, 18, 19, 20, 21, 22, 23, 24, 25] (fun i : Nat => i ≤ la.length ∧ la.take i = lb.take i) (fun i : Nat => [(5, Value.int .i64 i)]) (fun i => St w NoF [rdA a (iv la), rdA b (iv lb)]) (fun i => la.length - i)
    · exact fun w' hw' => ⟨0, ⟨by omega, by simp⟩, ⟨rfl, trivial⟩, hw'⟩
    intro i g ⟨hi, heq⟩
    by_cases hlt : i < la.length
    · obtain ⟨ba, oa, rfl⟩ := ha.form (fun e => by have := congrArg List.length e; simp at this; subst this; simp at hlt)
      obtain ⟨bb, ob, rfl⟩ := hb.form (fun e => by have := congrArg List.length e; simp at this; subst this; simp at hc; simp [hc] at hlt)
      have hlb : i < lb.length := by omega
      repeat'(first|refine kv' ?_|apply jJ|refine jE' ?_|refine jp' ?_|(apply jc;kernel_rfl)|refine kg' ?_|refine kG' ?_|refine kB' fun _=>?_|refine kA' fun _=>?_|refine kK' fun _=>?_|refine kU' ?_|(apply idxX;(iterate 2 exact rfl);(iterate 2(first|omega|(dsimp only;omega)));exact rfl)|(apply LR.ev; (· apply Ev.load_rd; (· exact rfl); (· repeat (first | exact mH _ _ | apply mT)); (· exact iv_at (i := i) (by simp) (by omega))); (· exact rfl))|(apply addX;(iterate 2 exact rfl);(iterate 2(first|omega|(dsimp only;omega)));exact rfl)|((first|refine kR' ?_ ?_|refine kQ' ?_ ?_);all_goals(intro hc;try simp only[hcs]at hc;try(exfalso;first|contradiction|omega))))
      · (apply ret1; (· exact rfl); intro w' hS)
        refine ⟨congrArg Value.bool ?_, hS.toKeep⟩
        have : la ≠ lb := fun e => by subst e; simp_all
        simp [this]
      · apply At.again (i + 1) ⟨by omega, take_succ_eq' hlt hlb heq (by simpa using ‹_›)⟩
        · (repeat (first | exact Out.refl _ _ | exact Out.mix | (apply Out.upd; (· exact rfl)) | (apply Out.updL; (· exact rfl)) | (apply Out.mixs; (· exact rfl))))
        · exact ⟨rfl, trivial⟩
        · exact fun w' hw' => hw'
        · omega
    · have hie : i = la.length := by omega
      subst hie
      repeat'(first|refine kv' ?_|apply jJ|refine jE' ?_|refine jp' ?_|(apply jc;kernel_rfl)|refine kg' ?_|refine kG' ?_|refine kB' fun _=>?_|refine kA' fun _=>?_|refine kK' fun _=>?_|refine kU' ?_|((first|refine kR' ?_ ?_|refine kQ' ?_ ?_);all_goals(intro hc;try simp only[hcs]at hc;try(exfalso;first|contradiction|omega))))
      (apply ret1; (· exact rfl); intro w' hS)
      refine ⟨congrArg Value.bool ?_, hS.toKeep⟩
      have hl : la.length = lb.length := by omega
      rw [List.take_length, hl, List.take_length] at heq
      simp [heq]
end Go.Proofs.Ytgblmkpfkcibiaa

namespace Go.Proofs
open Go.Shelf
def Try.lays189_ren : Go.Shelf.Ren := ⟨fun | 189 => 54 | 125 => 83 | 257 => 82 | 128 => 107 | 129 => 108 | 294 => 98 | 295 => 99 | 296 => 100 | 297 => 101 | 298 => 102 | 299 => 103 | 216 => 104 | 300 => 105 | 301 => 106 | 328 => 122 | 329 => 123 | 330 => 124 | 331 => 125 | 332 => 126 | 215 => 91 | 343 => 139 | n => n, fun | 28 => 22 | 3 => 3 | 46 => 124 | 0 => 0 | 51 => 141 | 53 => 56 | 4 => 4 | 183 => 135 | 182 => 134 | 131 => 29 | 5 => 5 | 9 => 9 | 218 => 161 | 222 => 158 | 228 => 175 | 229 => 87 | n => n, fun | n => n⟩
theorem Try.lays189 : Go.Proofs.Lays.n189 Try.prog Try.lays189_ren := {
  mixed := by kernel_rfl
  f125 := Try.func83.trans (congrArg some (by kernel_rfl))
  f128 := Try.func107.trans (congrArg some (by kernel_rfl))
  f129 := Try.func108.trans (congrArg some (by kernel_rfl))
  f189 := Try.func54.trans (congrArg some (by kernel_rfl))
  f215 := Try.func91.trans (congrArg some (by kernel_rfl))
  f216 := Try.func104.trans (congrArg some (by kernel_rfl))
  f257 := Try.func82.trans (congrArg some (by kernel_rfl))
  f294 := Try.func98.trans (congrArg some (by kernel_rfl))
  f295 := Try.func99.trans (congrArg some (by kernel_rfl))
  f296 := Try.func100.trans (congrArg some (by kernel_rfl))
  f297 := Try.func101.trans (congrArg some (by kernel_rfl))
  f298 := Try.func102.trans (congrArg some (by kernel_rfl))
  f299 := Try.func103.trans (congrArg some (by kernel_rfl))
  f300 := Try.func105.trans (congrArg some (by kernel_rfl))
  f301 := Try.func106.trans (congrArg some (by kernel_rfl))
  f328 := Try.func122.trans (congrArg some (by kernel_rfl))
  f329 := Try.func123.trans (congrArg some (by kernel_rfl))
  f330 := Try.func124.trans (congrArg some (by kernel_rfl))
  f331 := Try.func125.trans (congrArg some (by kernel_rfl))
  f332 := Try.func126.trans (congrArg some (by kernel_rfl))
  f343 := Try.func139.trans (congrArg some (by kernel_rfl))
  t0 := Try.underlying0
  a0 := Try.isAgg0
  z0 := Try.sizeOf0
  v0 := Try.zeroValue0
  t3 := Try.underlying3
  a3 := Try.isAgg3
  z3 := Try.sizeOf3
  v3 := Try.zeroValue3
  t4 := Try.underlying4
  a4 := Try.isAgg4
  z4 := Try.sizeOf4
  v4 := Try.zeroValue4
  t5 := Try.underlying5
  a5 := Try.isAgg5
  z5 := Try.sizeOf5
  v5 := Try.zeroValue5
  t9 := Try.underlying9
  a9 := Try.isAgg9
  z9 := Try.sizeOf9
  v9 := Try.zeroValue9
  t28 := Try.underlying22
  a28 := Try.isAgg22
  z28 := Try.sizeOf22
  v28 := Try.zeroValue22
  t46 := Try.underlying124
  a46 := Try.isAgg124
  z46 := Try.sizeOf124
  v46 := Try.zeroValue124
  t51 := Try.underlying141
  a51 := Try.isAgg141
  z51 := Try.sizeOf141
  v51 := Try.zeroValue141
  t53 := Try.underlying56
  a53 := Try.isAgg56
  z53 := Try.sizeOf56
  v53 := Try.zeroValue56
  t131 := Try.underlying29
  a131 := Try.isAgg29
  z131 := Try.sizeOf29
  v131 := Try.zeroValue29
  t182 := Try.underlying134
  a182 := Try.isAgg134
  z182 := Try.sizeOf134
  v182 := Try.zeroValue134
  t183 := Try.underlying135
  a183 := Try.isAgg135
  z183 := Try.sizeOf135
  v183 := Try.zeroValue135
  t218 := Try.underlying161
  a218 := Try.isAgg161
  z218 := Try.sizeOf161
  v218 := Try.zeroValue161
  t222 := Try.underlying158
  a222 := Try.isAgg158
  z222 := Try.sizeOf158
  v222 := Try.zeroValue158
  t228 := Try.underlying175
  a228 := Try.isAgg175
  z228 := Try.sizeOf175
  v228 := Try.zeroValue175
  t229 := Try.underlying87
  a229 := Try.isAgg87
  z229 := Try.sizeOf87
  v229 := Try.zeroValue87 }
open Go.Sort Go.RowKit in
theorem Try.slices_Sort_int (blk off cap : Nat) (zs : List Int) (w : World) (hH : Holds (Value.int .i64) w blk off zs.toArray) (hblk : blk < w.heap.size) (hsz : zs.length < 4611686018427387904) :
    Calls Try.prog 54 #[.slice (some ⟨blk, off, none⟩) zs.length cap] w fun e w' =>
      e = .returned (.tuple #[]) ∧ ∃ n os, w' = grow (putRow (Value.int .i64) (Sort.ahead w n) blk off (zs.mergeSort fun x y => decide (x ≤ y)).toArray) os := Any.slices_Sort_int Try.lays189 blk off cap zs w hH hblk hsz
theorem Try.slices_Sort_int_none (p : Option Addr) (cap : Nat) (w : World) :
    Calls Try.prog 54 #[.slice p 0 cap] w fun e w' => e = .returned (.tuple #[]) ∧ w' = w := Any.slices_Sort_int_none Try.lays189 p cap w
end Go.Proofs

namespace Go.Proofs.Ytgblmkpfkcibiaa
open Go.Hb
attribute [local irreducible] LR CW At Ev thn blk finK noG again CallsTo
set_option maxRecDepth 100000

def sortI (l : List Int) : List Int := l.mergeSort fun x y => decide (x ≤ y)
theorem sortI_len (l : List Int) : (sortI l).length = l.length := List.length_mergeSort ..
theorem callsTo_of {P : Program} {g : FuncId} {args : List Value} {w : World} {R : Ending → World → Prop} {K : Value → World → Prop} (h : Calls P g args.toArray w R) (hk : ∀ e w', R e w' → ∃ v, e = .returned v ∧ K v w') : CallsTo P g args w K :=
  by unfold CallsTo; exact Calls.mono h hk
theorem il_stay {w : World} {a : Option Addr} {c : Nat} {l : List Int} (h : w.ownsRow 0 3 1 (.slice a l.length c) l.length (iv l)) : Step (il a c l) (il a c l) w w :=
  ⟨St.refl w _, h, fun _ hk => .inl hk⟩
theorem t53 (a : Option Addr) (c : Nat) (l : List Int) (w : World) (h : w.ownsRow 0 3 1 (.slice a l.length c) l.length (iv l)) (hm : l.length ≤ 140737488355328) :
    CallsTo Try.prog 54 [.slice a l.length c] w fun v w' => v = .tuple #[] ∧ Step (il a c l) (il a c (sortI l)) w w' := by
  by_cases hl : l = []
  · subst hl
    refine callsTo_of (Try.slices_Sort_int_none a c w) ?_
    rintro e w' ⟨rfl, rfl⟩
    exact ⟨_, rfl, rfl, by simpa [sortI] using il_stay h⟩
  · rcases h.2 with ⟨he, hn⟩ | ⟨g, cap, cur, he, hb, hg, h1, h2, h3, h4⟩
    · exact absurd (List.eq_nil_of_length_eq_zero hn) hl
    simp only [Value.slice.injEq, true_and] at he
    obtain ⟨rfl, rfl⟩ := he
    rw [Nat.mul_one] at h4
    refine callsTo_of (Try.slices_Sort_int g 0 c l w (holds_of_blockI hg h4) ((Array.getElem?_eq_some_iff.1 hg).1) (by omega)) ?_
    rintro e w' ⟨rfl, n, os, rfl⟩
    refine ⟨_, rfl, rfl, keep_of_grown (grownBy_sortedI _) (fun k hk => ?_), ?_, fun k hk => .inl hk⟩
    · cases hk; exact rfl
    · have := ownsRow_sortedI (base := 0) (n := n) (os := os) (sortI_len l) (Nat.zero_le _) hg h1 h2 h3
      show World.ownsRow _ _ _ _ _ _ _
      rw [sortI_len]
      exact this
structure NewOd (w w' : World) (v : Value) (E : TypeId) (sz n : Nat) (xs : List Value) : Prop where
  grew : Grew w w'
  own : ownsAt w' E sz v n xs
  new : ∀ k, v.ownBlock = some k → w.heap.size ≤ k ∧ k < w'.heap.size
end Go.Proofs.Ytgblmkpfkcibiaa

namespace Go.Proofs.Ytgblmkpfkcibiaa
open Go.Hb
attribute [local irreducible] LR CW At Ev thn blk finK noG again CallsTo DW QL dnext TW DP
set_option maxRecDepth 100000

def farV (o : Option Int) : Value := .tuple [.int .i64 (o.getD 0), .bool o.isSome].toArray
theorem m13T {p : Pln} {A : PlA} {w w0 : World} {L : List Asrt} (hi : PlI p) (h1 : St w0 NoF L w) (hr : PlR w p A) (hc : chkP p.R p.G = true) : CallsTo Try.prog 13 [p.val A] w fun v w' => v = .int .i64 0 ∧ St w0 NoF L w' := by
  have hq := CallsTo.q (m13 p A w hr hi) h1
  rw [hc] at hq
  exact hq
theorem m13F {p : Pln} {A : PlA} {w w0 : World} {L : List Asrt} (hi : PlI p) (h1 : St w0 NoF L w) (hr : PlR w p A) (hc : chkP p.R p.G = false) : CallsTo Try.prog 13 [p.val A] w fun v w' => v = .int .i64 230 ∧ St w0 NoF L w' := by
  have hq := CallsTo.q (m13 p A w hr hi) h1
  rw [hc] at hq
  exact hq
theorem m14T {p : Pln} {A : PlA} {w w0 : World} {L : List Asrt} (hi : PlI p) (h1 : St w0 NoF L w) (hr : PlR w p A) (hc : chkP p.R p.G = true) : CallsTo Try.prog 14 [p.val A] w fun v w' => v = .int .i64 0 ∧ St w0 NoF L w' := by
  have hq := CallsTo.q (m14 p A w hr hi) h1
  rw [← chk_same, hc] at hq
  exact hq
theorem m14F {p : Pln} {A : PlA} {w w0 : World} {L : List Asrt} (hi : PlI p) (h1 : St w0 NoF L w) (hr : PlR w p A) (hc : chkP p.R p.G = false) : CallsTo Try.prog 14 [p.val A] w fun v w' => v = .int .i64 230 ∧ St w0 NoF L w' := by
  have hq := CallsTo.q (m14 p A w hr hi) h1
  rw [← chk_same, hc] at hq
  exact hq
set_option maxHeartbeats 1000000 in
theorem m15 (p : Pln) (A : PlA) (n r : Int) (w : World) (hr : PlR w p A) (hi : PlI p) : CallsTo Try.prog 15 [p.val A, .int .i64 n, .int .i64 r] w fun v w' => v = farV (farT p.R p.G n r) ∧ Grew w w' := by
  refine go_in (n := 40) (pl_in hr) Try.func15 rfl rfl ?_
  have hgl := hi.gl
  rw [show p.val A = .agg [.slice A.ra p.R.length A.rc, .slice A.ga p.G.length A.gc].toArray from rfl]
  unfold farT
  cases hck : chkP p.R p.G with
  | false =>
    repeat'(first|refine kv' ?_|apply jJ|refine jE' ?_|refine jp' ?_|(apply jc;kernel_rfl)|refine kg' ?_|refine kG' ?_|refine kB' fun _=>?_|refine kA' fun _=>?_|refine kK' fun _=>?_|refine kU' ?_|(apply kq; (· exact rfl); (· intro w1 h1; exact (show CallsTo Try.prog 13 [p.val A] w1 _ from m13F hi h1 ⟨h1.rd_of memZ, h1.rd_of memZ⟩ hck)))|((first|refine kR' ?_ ?_|refine kQ' ?_ ?_);all_goals(intro hc;try simp only[hcs]at hc;try(exfalso;first|contradiction|omega))))
    (apply ret2; (· exact rfl); intro w' hS)
    exact ⟨rfl, hS.toKeep⟩
  | true =>
    repeat'(first|(refine kB' fun b1 => ?_)|refine kv' ?_|apply jJ|refine jE' ?_|refine jp' ?_|(apply jc;kernel_rfl)|refine kg' ?_|refine kG' ?_|refine kB' fun _=>?_|refine kA' fun _=>?_|refine kK' fun _=>?_|refine kU' ?_|(apply kq; (· exact rfl); (· intro w1 h1; exact (show CallsTo Try.prog 13 [p.val A] w1 _ from m13T hi h1 ⟨h1.rd_of memZ, h1.rd_of memZ⟩ hck)))|((first|refine kR' ?_ ?_|refine kQ' ?_ ?_);all_goals(intro hc;try simp only[hcs]at hc;try(exfalso;first|contradiction|omega))))
    apply CW.loop [6, 7, 9, 16, 17, 18, 19, 20, 21, 22, 23, 24, 25, 26, 27, 28, 29, 30, 31, 32, 33, 34, 35, 36, 37, 38, 39] (fun i : Nat => i ≤ p.G.length ∧ farG p.G n r = farG (p.G.drop i) n r) (fun i : Nat => [(16, Value.int .i64 (i : Int))])
      (fun _ => St w NoF [.own b1 (.cells [Value.slice A.ra p.R.length A.rc, .slice A.ga p.G.length A.gc].toArray 25 (0, 0)), rdA A.ga (gv p.G), rdA A.ra (iv p.R)]) (fun i => p.G.length - i)
    · exact fun w' hw' => ⟨0, ⟨by omega, rfl⟩, ⟨rfl, trivial⟩, hw'⟩
    rintro i g2 ⟨hil, hf⟩
    rw [if_pos rfl, hf]
    by_cases hlt : i < p.G.length
    · rw [farG_drop _ _ _ hlt] at hf
      rw [farG_drop _ _ _ hlt]
      obtain ⟨bg, og, hga⟩ := hr.g.form (rows_ne gat_len (by omega) hlt)
      rw [hga]
      obtain ⟨y, hy⟩ : ∃ y, p.G[i] = y := ⟨_, rfl⟩
      rw [hy] at hf ⊢
      repeat'(first|(refine kA' fun bg2 => ?_)|refine kv' ?_|apply jJ|refine jE' ?_|refine jp' ?_|(apply jc;kernel_rfl)|refine kg' ?_|refine kG' ?_|refine kB' fun _=>?_|refine kA' fun _=>?_|refine kK' fun _=>?_|refine kU' ?_|(apply idxX;(iterate 2 exact rfl);(iterate 2(first|omega|(dsimp only;omega)));exact rfl)|(apply addX;(iterate 2 exact rfl);(iterate 2(first|omega|(dsimp only;omega)));exact rfl)|(apply LR.ev; (· apply Ev.load_agg_at (cs := [Value.int .i64 y.n, .int .i64 y.a, .int .i64 y.b]); (· exact rfl); (· exact rfl); (· intro w' hw'; have h9 := rd_row (f := Gat.cells) (l := p.G) (i := i) (q := (i : Int).toNat * 3) gat_len (hw'.rd_of memZ) hlt (by simp); rw [hy] at h9; exact h9)); (· exact rfl))|((first|refine kR' ?_ ?_|refine kQ' ?_ ?_);all_goals(intro hc;try simp only[hcs]at hc;try(exfalso;first|contradiction|omega))))
      all_goals (first
        | ((apply ret2; (· exact rfl); intro w' hS)
           first
             | (rw [if_pos ⟨by assumption, by assumption⟩]; exact ⟨rfl, hS.toKeep⟩)
             | (rw [if_neg (fun h => absurd h.2 (by assumption)), if_pos ⟨by assumption, by assumption⟩]; exact ⟨rfl, hS.toKeep⟩))
        | (refine At.again (i + 1) ⟨by omega, ?_⟩ ?_ ⟨rfl, trivial⟩ (fun w' hw' => hw'.sub subZ) (by omega)
           · first
               | (rw [if_neg (fun h => absurd h.1 (by assumption)), if_neg (fun h => absurd h.1 (by assumption))])
               | (rw [if_neg (fun h => absurd h.2 (by assumption)), if_neg (fun h => absurd h.2 (by assumption))])
           · (repeat (first | exact Out.refl _ _ | exact Out.mix | (apply Out.upd; (· exact rfl)) | (apply Out.updL; (· exact rfl)) | (apply Out.mixs; (· exact rfl))))
           ))
    · have hie : i = p.G.length := by omega
      subst hie
      rw [List.drop_length]
      repeat'(first|refine kv' ?_|apply jJ|refine jE' ?_|refine jp' ?_|(apply jc;kernel_rfl)|refine kg' ?_|refine kG' ?_|refine kB' fun _=>?_|refine kA' fun _=>?_|refine kK' fun _=>?_|refine kU' ?_|((first|refine kR' ?_ ?_|refine kQ' ?_ ?_);all_goals(intro hc;try simp only[hcs]at hc;try(exfalso;first|contradiction|omega))))
      (apply ret2; (· exact rfl); intro w' hS)
      exact ⟨rfl, hS.toKeep⟩
set_option maxHeartbeats 1000000 in
theorem m16 (p : Pln) (A : PlA) (n r : Int) (w : World) (hr : PlR w p A) (hi : PlI p) : CallsTo Try.prog 16 [p.val A, .int .i64 n, .int .i64 r] w fun v w' => v = farV (farT p.R p.G n r) ∧ Grew w w' := by
  refine go_in (n := 51) (pl_in hr) Try.func16 rfl rfl ?_
  have hgl := hi.gl
  rw [show p.val A = .agg [.slice A.ra p.R.length A.rc, .slice A.ga p.G.length A.gc].toArray from rfl]
  repeat'(first|(refine kB' fun b1 => ?_)|refine kv' ?_|apply jJ|refine jE' ?_|refine jp' ?_|(apply jc;kernel_rfl)|refine kg' ?_|refine kG' ?_|refine kB' fun _=>?_|refine kA' fun _=>?_|refine kK' fun _=>?_|refine kU' ?_|((first|refine kR' ?_ ?_|refine kQ' ?_ ?_);all_goals(intro hc;try simp only[hcs]at hc;try(exfalso;first|contradiction|omega))))
  apply CW.loop [6, 7, 8, 9, 10, 11, 12, 13, 14, 15, 16, 17, 18, 19, 20, 21, 22, 23, 24, 25, 26, 27, 28, 29, 30, 31, 32, 33, 34, 35, 36, 37, 38, 39, 40, 41, 42, 43, 44, 45, 46, 47, 48, 49, 50] (fun i : Nat => i ≤ p.G.length ∧ farG p.G n r = farG (p.G.drop i) n r) (fun i : Nat => [(8, Value.int .i64 (i : Int))])
    (fun _ => St w NoF [.own b1 (.cells [Value.slice A.ra p.R.length A.rc, .slice A.ga p.G.length A.gc].toArray 25 (0, 0)), rdA A.ga (gv p.G), rdA A.ra (iv p.R)]) (fun i => p.G.length - i)
  · exact fun w' hw' => ⟨0, ⟨by omega, rfl⟩, ⟨rfl, trivial⟩, hw'⟩
  rintro i g2 ⟨hil, hf⟩
  unfold farT
  by_cases hlt : i < p.G.length
  · cases hck : chkP p.R p.G with
    | false =>
      repeat'(first|refine kv' ?_|apply jJ|refine jE' ?_|refine jp' ?_|(apply jc;kernel_rfl)|refine kg' ?_|refine kG' ?_|refine kB' fun _=>?_|refine kA' fun _=>?_|refine kK' fun _=>?_|refine kU' ?_|(apply kq; (· exact rfl); (· intro w1 h1; exact (show CallsTo Try.prog 14 [p.val A] w1 _ from m14F hi h1 ⟨h1.rd_of memZ, h1.rd_of memZ⟩ hck)))|((first|refine kR' ?_ ?_|refine kQ' ?_ ?_);all_goals(intro hc;try simp only[hcs]at hc;try(exfalso;first|contradiction|omega))))
      (apply ret2; (· exact rfl); intro w' hS)
      exact ⟨rfl, hS.toKeep⟩
    | true =>
      rw [if_pos rfl, hf]
      rw [farG_drop _ _ _ hlt] at hf
      rw [farG_drop _ _ _ hlt]
      obtain ⟨bg, og, hga⟩ := hr.g.form (rows_ne gat_len (by omega) hlt)
      rw [hga]
      obtain ⟨y, hy⟩ : ∃ y, p.G[i] = y := ⟨_, rfl⟩
      rw [hy] at hf ⊢
      repeat'(first|(refine kA' fun bg2 => ?_)|refine kv' ?_|apply jJ|refine jE' ?_|refine jp' ?_|(apply jc;kernel_rfl)|refine kg' ?_|refine kG' ?_|refine kB' fun _=>?_|refine kA' fun _=>?_|refine kK' fun _=>?_|refine kU' ?_|(apply idxX;(iterate 2 exact rfl);(iterate 2(first|omega|(dsimp only;omega)));exact rfl)|(apply addX;(iterate 2 exact rfl);(iterate 2(first|omega|(dsimp only;omega)));exact rfl)|(apply kq; (· exact rfl); (· intro w1 h1; exact (show CallsTo Try.prog 14 [p.val ⟨A.ra, A.rc, some ⟨bg, og, none⟩, A.gc⟩] w1 _ from m14T hi h1 ⟨h1.rd_of memZ, h1.rd_of memZ⟩ hck)))|(apply LR.ev; (· apply Ev.load_agg_at (cs := [Value.int .i64 y.n, .int .i64 y.a, .int .i64 y.b]); (· exact rfl); (· exact rfl); (· intro w' hw'; have h9 := rd_row (f := Gat.cells) (l := p.G) (i := i) (q := (i : Int).toNat * 3) gat_len (hw'.rd_of memZ) hlt (by simp); rw [hy] at h9; exact h9)); (· exact rfl))|((first|refine kR' ?_ ?_|refine kQ' ?_ ?_);all_goals(intro hc;try simp only[hcs]at hc;try(exfalso;first|contradiction|omega))))
      all_goals (first
        | ((apply ret2; (· exact rfl); intro w' hS)
           first
             | (rw [if_pos ⟨by assumption, by assumption⟩]; exact ⟨rfl, hS.toKeep⟩)
             | (rw [if_neg (fun h => absurd h.2 (by assumption)), if_pos ⟨by assumption, by assumption⟩]; exact ⟨rfl, hS.toKeep⟩))
        | (refine At.again (i + 1) ⟨by omega, ?_⟩ ?_ ⟨rfl, trivial⟩ (fun w' hw' => hw'.sub subZ) (by omega)
           · first
               | (rw [if_neg (fun h => absurd h.1 (by assumption)), if_neg (fun h => absurd h.1 (by assumption))])
               | (rw [if_neg (fun h => absurd h.2 (by assumption)), if_neg (fun h => absurd h.2 (by assumption))])
           · (repeat (first | exact Out.refl _ _ | exact Out.mix | (apply Out.upd; (· exact rfl)) | (apply Out.updL; (· exact rfl)) | (apply Out.mixs; (· exact rfl))))
           ))
  · have hie : i = p.G.length := by omega
    subst hie
    rw [List.drop_length] at hf
    rw [hf]
    repeat'(first|refine kv' ?_|apply jJ|refine jE' ?_|refine jp' ?_|(apply jc;kernel_rfl)|refine kg' ?_|refine kG' ?_|refine kB' fun _=>?_|refine kA' fun _=>?_|refine kK' fun _=>?_|refine kU' ?_|((first|refine kR' ?_ ?_|refine kQ' ?_ ?_);all_goals(intro hc;try simp only[hcs]at hc;try(exfalso;first|contradiction|omega))))
    (apply ret2; (· exact rfl); intro w' hS)
    refine ⟨?_, hS.toKeep⟩
    split <;> rfl
end Go.Proofs.Ytgblmkpfkcibiaa

namespace Go.Proofs.Ytgblmkpfkcibiaa
open Go.Hb
attribute [local irreducible] LR CW At Ev thn blk finK noG again CallsTo DW QL dnext TW DP
set_option maxRecDepth 100000

abbrev ilR (w w' : World) (v : Value) (l : List Int) : Prop := ∃ a' c', v = .slice a' l.length c' ∧ NewSl w w' (.slice a' l.length c') 3 1 l.length (iv l)
theorem ilR_nil (w : World) {w' : World} (h : Grew w w') : ilR w w' (.slice none 0 0) [] := ⟨none, 0, rfl, ((h : St w NoF [] w').nilsl 3 1).toNew (mH _ _)⟩
theorem ilK_snoc {a : Option Addr} {c : Nat} {L : List Int} {x : Int} : ilK a c (L ++ [x]) = osl (.slice a (L.length + 1) c) 3 1 (L.length + 1) (iv L ++ [Value.int .i64 x]) := by simp [ilK, iv]
set_option maxHeartbeats 1000000 in
theorem m18 (p : Pln) (A : PlA) (n : Int) (w : World) (hr : PlR w p A) (hi : PlI p) : CallsTo Try.prog 18 [p.val A, .int .i64 n] w fun v w' => ilR w w' v (sidesT p.R p.G n) := by
  refine go_in (n := 28) (pl_in hr) Try.func18 rfl rfl ?_
  have hrl := hi.rl
  rw [show p.val A = .agg [.slice A.ra p.R.length A.rc, .slice A.ga p.G.length A.gc].toArray from rfl]
  unfold sidesT
  cases hck : chkP p.R p.G with
  | false =>
    repeat'(first|refine kv' ?_|apply jJ|refine jE' ?_|refine jp' ?_|(apply jc;kernel_rfl)|refine kg' ?_|refine kG' ?_|refine kB' fun _=>?_|refine kA' fun _=>?_|refine kK' fun _=>?_|refine kU' ?_|(apply kq; (· exact rfl); (· intro w1 h1; exact (show CallsTo Try.prog 13 [p.val A] w1 _ from m13F hi h1 ⟨h1.rd_of memZ, h1.rd_of memZ⟩ hck)))|((first|refine kR' ?_ ?_|refine kQ' ?_ ?_);all_goals(intro hc;try simp only[hcs]at hc;try(exfalso;first|contradiction|omega))))
    (apply ret1; (· exact rfl); intro w' hS)
    exact ilR_nil w hS.toKeep
  | true =>
    repeat'(first|(refine kB' fun b1 => ?_)|refine kv' ?_|apply jJ|refine jE' ?_|refine jp' ?_|(apply jc;kernel_rfl)|refine kg' ?_|refine kG' ?_|refine kB' fun _=>?_|refine kA' fun _=>?_|refine kK' fun _=>?_|refine kU' ?_|(apply kq; (· exact rfl); (· intro w1 h1; exact (show CallsTo Try.prog 13 [p.val A] w1 _ from m13T hi h1 ⟨h1.rd_of memZ, h1.rd_of memZ⟩ hck)))|((first|refine kR' ?_ ?_|refine kQ' ?_ ?_);all_goals(intro hc;try simp only[hcs]at hc;try(exfalso;first|contradiction|omega))))
    apply CW.loop [5, 6, 7, 14, 15, 16, 17, 18, 19, 20, 21, 22, 23, 24, 25, 26] (fun s : Cst => s.k ≤ p.R.length) (fun s => [(5, .slice s.a (sidesTo p.R n s.k).length s.c), (14, .int .i64 (s.k : Int))])
      (fun s => St w NoF [ilK s.a s.c (sidesTo p.R n s.k), .own b1 (.cells [Value.slice A.ra p.R.length A.rc, .slice A.ga p.G.length A.gc].toArray 25 (0, 0)), rdA A.ga (gv p.G), rdA A.ra (iv p.R)]) (fun s => p.R.length - s.k)
    · exact fun w' hw' => ⟨⟨0, none, 0⟩, by simp, ⟨rfl, rfl, trivial⟩, hw'.nilsl 3 1⟩
    rintro ⟨k, a2, c2⟩ g hk
    simp only at hk ⊢
    have hle := sidesTo_len p.R n k
    by_cases hlt : k < p.R.length
    · obtain ⟨ba, oa, hra⟩ := hr.r.form (fun e => by have := congrArg List.length e; simp only [iv_length, List.length_nil] at this; omega)
      rw [hra]
      have hsu : sidesTo p.R n (k + 1) = sidesTo p.R n k ++ if hasC (p.R.getD k 0) n then [(k : Int)] else [] := rfl
      rw [getD_nat _ hlt] at hsu
      generalize sidesTo p.R n k = L at hsu hle ⊢
      cases hx : hasC p.R[k] n
      · rw [hx, if_neg (by simp), List.append_nil] at hsu
        repeat'(first|refine kv' ?_|apply jJ|refine jE' ?_|refine jp' ?_|(apply jc;kernel_rfl)|refine kg' ?_|refine kG' ?_|refine kB' fun _=>?_|refine kA' fun _=>?_|refine kK' fun _=>?_|refine kU' ?_|(apply idxX;(iterate 2 exact rfl);(iterate 2(first|omega|(dsimp only;omega)));exact rfl)|(apply LR.ev; (· apply Ev.load_rd; (· exact rfl); (· repeat (first | exact mH _ _ | apply mT)); (· exact iv_at (i := k) (by simp) (by omega))); (· exact rfl))|(apply addX;(iterate 2 exact rfl);(iterate 2(first|omega|(dsimp only;omega)));exact rfl)|(apply kq; (· exact rfl); (· intro w1 h1; have hq := CallsTo.q (q23 p.R[k] n w1) h1; rw [hx] at hq; show CallsTo Try.prog 52 [.int .i64 p.R[k], .int .i64 n] w1 _; exact hq))|((first|refine kR' ?_ ?_|refine kQ' ?_ ?_);all_goals(intro hc;try simp only[hcs]at hc;try(exfalso;first|contradiction|omega))))
        refine At.again (⟨k + 1, a2, c2⟩ : Cst) (by simp only; omega) ?_ ⟨?_, rfl, trivial⟩ ?_ (by simp only; omega)
        · (repeat (first | exact Out.refl _ _ | exact Out.mix | (apply Out.upd; (· exact rfl)) | (apply Out.updL; (· exact rfl)) | (apply Out.mixs; (· exact rfl))))
        · simp only
          rw [hsu]
          rfl
        · intro w' hw'
          simp only
          rw [hsu]
          exact hw'.sub subZ
      · rw [hx, if_pos rfl] at hsu
        repeat'(first|(apply Go.Hb.kK;(iterate 4 exact rfl);intro bs)|refine kv' ?_|apply jJ|refine jE' ?_|refine jp' ?_|(apply jc;kernel_rfl)|refine kg' ?_|refine kG' ?_|refine kB' fun _=>?_|refine kA' fun _=>?_|refine kK' fun _=>?_|refine kU' ?_|(apply idxX;(iterate 2 exact rfl);(iterate 2(first|omega|(dsimp only;omega)));exact rfl)|(apply LR.ev; (· apply Ev.load_rd; (· exact rfl); (· repeat (first | exact mH _ _ | apply mT)); (· exact iv_at (i := k) (by simp) (by omega))); (· exact rfl))|(apply addX;(iterate 2 exact rfl);(iterate 2(first|omega|(dsimp only;omega)));exact rfl)|(apply kq; (· exact rfl); (· intro w1 h1; have hq := CallsTo.q (q23 p.R[k] n w1) h1; rw [hx] at hq; show CallsTo Try.prog 52 [.int .i64 p.R[k], .int .i64 n] w1 _; exact hq))|(apply LR.append (xs := iv L) (news := [Value.int .i64 (k : Int)]) (m := 1); (· exact rfl); (· exact rfl); (· intro a' c'; (repeat (first | exact sH _ _ _ | apply sT))); (· exact fun w' hw' => hw'.rd_of_blk (mH _ _)); (· exact fun hx => by cases hx); (· exact rfl); (· exact rfl); (· omega); (· unfold maxLen; omega); (· exact rfl); (intro a3 c3))|((first|refine kR' ?_ ?_|refine kQ' ?_ ?_);all_goals(intro hc;try simp only[hcs]at hc;try(exfalso;first|contradiction|omega))))
        refine At.again (⟨k + 1, a3, c3⟩ : Cst) (by simp only; omega) ?_ ⟨?_, rfl, trivial⟩ ?_ (by simp only; omega)
        · (repeat (first | exact Out.refl _ _ | exact Out.mix | (apply Out.upd; (· exact rfl)) | (apply Out.updL; (· exact rfl)) | (apply Out.mixs; (· exact rfl))))
        · simp only
          rw [hsu, List.length_append]
          rfl
        · intro w' hw'
          simp only
          rw [hsu, ilK_snoc]
          exact hw'.sub subZ
    · have hke : k = p.R.length := by omega
      subst hke
      repeat'(first|refine kv' ?_|apply jJ|refine jE' ?_|refine jp' ?_|(apply jc;kernel_rfl)|refine kg' ?_|refine kG' ?_|refine kB' fun _=>?_|refine kA' fun _=>?_|refine kK' fun _=>?_|refine kU' ?_|((first|refine kR' ?_ ?_|refine kQ' ?_ ?_);all_goals(intro hc;try simp only[hcs]at hc;try(exfalso;first|contradiction|omega))))
      (apply ret1; (· exact rfl); intro w' hS)
      exact ⟨a2, c2, rfl, hS.toNew memZ⟩
theorem gwRaw_take (G : List Gat) (r : Int) {k : Nat} (h : k < G.length) : gwRaw (G.take (k + 1)) r = gwRaw (G.take k) r ++ if (G[k]'h).a = r ∨ (G[k]'h).b = r then [(G[k]'h).n] else [] := by
  unfold gwRaw
  rw [List.take_add_one, List.getElem?_eq_getElem h, List.filter_append, List.map_append]
  congr 1
  show ([G[k]].filter _).map _ = _
  rw [List.filter_cons]
  by_cases hx : G[k].a = r ∨ G[k].b = r
  · rw [if_pos hx, if_pos (by simpa using hx)]; rfl
  · rw [if_neg hx, if_neg (by simpa using hx)]; rfl
theorem gwRaw_len (G : List Gat) (r : Int) : (gwRaw G r).length ≤ G.length := by unfold gwRaw; rw [List.length_map]; exact List.length_filter_le _ _
set_option maxHeartbeats 1000000 in
theorem m20 (p : Pln) (A : PlA) (r : Int) (w : World) (hr : PlR w p A) (hi : PlI p) : CallsTo Try.prog 20 [p.val A, .int .i64 r] w fun v w' => ilR w w' v (gwsT p.R p.G r) := by
  refine go_in (n := 37) (pl_in hr) Try.func20 rfl rfl ?_
  have hgl := hi.gl
  rw [show p.val A = .agg [.slice A.ra p.R.length A.rc, .slice A.ga p.G.length A.gc].toArray from rfl]
  cases hck : chkP p.R p.G with
  | false =>
    rw [gwsTo_bad r hck]
    repeat'(first|refine kv' ?_|apply jJ|refine jE' ?_|refine jp' ?_|(apply jc;kernel_rfl)|refine kg' ?_|refine kG' ?_|refine kB' fun _=>?_|refine kA' fun _=>?_|refine kK' fun _=>?_|refine kU' ?_|(apply kq; (· exact rfl); (· intro w1 h1; exact (show CallsTo Try.prog 13 [p.val A] w1 _ from m13F hi h1 ⟨h1.rd_of memZ, h1.rd_of memZ⟩ hck)))|((first|refine kR' ?_ ?_|refine kQ' ?_ ?_);all_goals(intro hc;try simp only[hcs]at hc;try(exfalso;first|contradiction|omega))))
    (apply ret1; (· exact rfl); intro w' hS)
    exact ilR_nil w hS.toKeep
  | true =>
    rw [← gws_sort r hck]
    repeat'(first|(refine kB' fun b1 => ?_)|refine kv' ?_|apply jJ|refine jE' ?_|refine jp' ?_|(apply jc;kernel_rfl)|refine kg' ?_|refine kG' ?_|refine kB' fun _=>?_|refine kA' fun _=>?_|refine kK' fun _=>?_|refine kU' ?_|(apply kq; (· exact rfl); (· intro w1 h1; exact (show CallsTo Try.prog 13 [p.val A] w1 _ from m13T hi h1 ⟨h1.rd_of memZ, h1.rd_of memZ⟩ hck)))|((first|refine kR' ?_ ?_|refine kQ' ?_ ?_);all_goals(intro hc;try simp only[hcs]at hc;try(exfalso;first|contradiction|omega))))
    apply CW.loop [5, 7, 14, 15, 16, 17, 18, 19, 20, 21, 22, 23, 24, 25, 26, 27, 28, 29, 30, 31, 32, 33] (fun s : Cst => s.k ≤ p.G.length) (fun s => [(5, .slice s.a (gwRaw (p.G.take s.k) r).length s.c), (14, .int .i64 (s.k : Int))])
      (fun s => St w NoF [ilK s.a s.c (gwRaw (p.G.take s.k) r), .own b1 (.cells [Value.slice A.ra p.R.length A.rc, .slice A.ga p.G.length A.gc].toArray 25 (0, 0)), rdA A.ga (gv p.G), rdA A.ra (iv p.R)]) (fun s => p.G.length - s.k)
    · exact fun w' hw' => ⟨⟨0, none, 0⟩, by simp, ⟨rfl, rfl, trivial⟩, hw'.nilsl 3 1⟩
    rintro ⟨k, a2, c2⟩ g hk
    simp only at hk ⊢
    have hle : (gwRaw (p.G.take k) r).length ≤ k := Nat.le_trans (gwRaw_len _ _) (by rw [List.length_take]; omega)
    by_cases hlt : k < p.G.length
    · have hsu := gwRaw_take p.G r hlt
      obtain ⟨bg, og, hga⟩ := hr.g.form (rows_ne gat_len (by omega) hlt)
      rw [hga]
      obtain ⟨y, hy⟩ : ∃ y, p.G[k] = y := ⟨_, rfl⟩
      rw [hy] at hsu
      generalize gwRaw (p.G.take k) r = L at hsu hle ⊢
      repeat'(first|(refine kA' fun bg2 => ?_)|(apply Go.Hb.kK;(iterate 4 exact rfl);intro bs)|refine kv' ?_|apply jJ|refine jE' ?_|refine jp' ?_|(apply jc;kernel_rfl)|refine kg' ?_|refine kG' ?_|refine kB' fun _=>?_|refine kA' fun _=>?_|refine kK' fun _=>?_|refine kU' ?_|(apply idxX;(iterate 2 exact rfl);(iterate 2(first|omega|(dsimp only;omega)));exact rfl)|(apply addX;(iterate 2 exact rfl);(iterate 2(first|omega|(dsimp only;omega)));exact rfl)|(apply LR.ev; (· apply Ev.load_agg_at (cs := [Value.int .i64 y.n, .int .i64 y.a, .int .i64 y.b]); (· exact rfl); (· exact rfl); (· intro w' hw'; have h9 := rd_row (f := Gat.cells) (l := p.G) (i := k) (q := (k : Int).toNat * 3) gat_len (hw'.rd_of memZ) hlt (by simp); rw [hy] at h9; exact h9)); (· exact rfl))|(apply LR.append (xs := iv L) (news := [Value.int .i64 y.n]) (m := 1); (· exact rfl); (· exact rfl); (· intro a' c'; (repeat (first | exact sH _ _ _ | apply sT))); (· exact fun w' hw' => hw'.rd_of_blk (mH _ _)); (· exact fun hx => by cases hx); (· exact rfl); (· exact rfl); (· omega); (· unfold maxLen; omega); (· exact rfl); (intro a3 c3))|((first|refine kR' ?_ ?_|refine kQ' ?_ ?_);all_goals(intro hc;try simp only[hcs]at hc;try(exfalso;first|contradiction|omega))))
      all_goals (first
        | (have hq : y.a = r ∨ y.b = r := by omega
           rw [if_pos hq] at hsu
           refine At.again (⟨k + 1, a3, c3⟩ : Cst) (by simp only; omega) ?_ ⟨?_, rfl, trivial⟩ ?_ (by simp only; omega)
           · (repeat (first | exact Out.refl _ _ | exact Out.mix | (apply Out.upd; (· exact rfl)) | (apply Out.updL; (· exact rfl)) | (apply Out.mixs; (· exact rfl))))
           · simp only
             rw [hsu, List.length_append]
             rfl
           · intro w' hw'
             simp only
             rw [hsu, ilK_snoc]
             exact hw'.sub subZ)
        | (have hq : ¬(y.a = r ∨ y.b = r) := by omega
           rw [if_neg hq, List.append_nil] at hsu
           refine At.again (⟨k + 1, a2, c2⟩ : Cst) (by simp only; omega) ?_ ⟨?_, rfl, trivial⟩ ?_ (by simp only; omega)
           · (repeat (first | exact Out.refl _ _ | exact Out.mix | (apply Out.upd; (· exact rfl)) | (apply Out.updL; (· exact rfl)) | (apply Out.mixs; (· exact rfl))))
           · simp only
             rw [hsu]
             rfl
           · intro w' hw'
             simp only
             rw [hsu]
             exact hw'.sub subZ))
    · have hke : k = p.G.length := by omega
      subst hke
      rw [List.take_length] at hle ⊢
      repeat'(first|refine kv' ?_|apply jJ|refine jE' ?_|refine jp' ?_|(apply jc;kernel_rfl)|refine kg' ?_|refine kG' ?_|refine kB' fun _=>?_|refine kA' fun _=>?_|refine kK' fun _=>?_|refine kU' ?_|((first|refine kR' ?_ ?_|refine kQ' ?_ ?_);all_goals(intro hc;try simp only[hcs]at hc;try(exfalso;first|contradiction|omega))))
      apply LR.call
      · exact rfl
      intro w1 h1
      refine CallsTo.mono (show CallsTo Try.prog 54 [.slice a2 (gwRaw p.G r).length c2] w1 _ from t53 a2 c2 (gwRaw p.G r) w1 (h1.holds (ilK a2 c2 (gwRaw p.G r)) memZ) (by omega)) ?_
      rintro v w2 ⟨rfl, st⟩
      refine LR.back (h1.did selZ rfl st (osl.dep _ _ _ _ _)) ?_
      clear st h1
      repeat'(first|refine kv' ?_|apply jJ|refine jE' ?_|refine jp' ?_|(apply jc;kernel_rfl)|refine kg' ?_|refine kG' ?_|refine kB' fun _=>?_|refine kA' fun _=>?_|refine kK' fun _=>?_|refine kU' ?_|((first|refine kR' ?_ ?_|refine kQ' ?_ ?_);all_goals(intro hc;try simp only[hcs]at hc;try(exfalso;first|contradiction|omega))))
      (apply ret1; (· exact rfl); intro w' hS)
      have hln := sortI_len (gwRaw p.G r)
      show ilR w w' (.slice a2 (gwRaw p.G r).length c2) (sortI (gwRaw p.G r))
      exact ⟨a2, c2, by rw [hln], hS.toNew memZ⟩
end Go.Proofs.Ytgblmkpfkcibiaa

namespace Go.Proofs.Ytgblmkpfkcibiaa
open Go.Hb
attribute [local irreducible] LR CW At Ev thn blk finK noG again CallsTo DW QL dnext TW DP gpost
set_option maxRecDepth 100000

def cmpM (x y : Int) : Int := if x < y then -1 else if y < x then 1 else 0
theorem m91 (x : Int) (w : World) : CallsTo Try.prog 91 [.int .i64 x] w fun v w' => v = .bool false ∧ Grew w w' := by
  refine go_in (n := 6) (St.refl _ NoF) Try.func91 rfl rfl ?_
  repeat'(first|refine kv' ?_|apply jJ|refine jE' ?_|refine jp' ?_|(apply jc;kernel_rfl)|refine kg' ?_|refine kG' ?_|refine kB' fun _=>?_|refine kA' fun _=>?_|refine kK' fun _=>?_|refine kU' ?_|((first|refine kR' ?_ ?_|refine kQ' ?_ ?_);all_goals(intro hc;try simp only[hcs]at hc;try(exfalso;first|contradiction|omega))))
  (apply ret1; (· exact rfl); intro w' hS)
  exact ⟨congrArg Value.bool (by simp), hS⟩
theorem m69 (x y : Int) (w : World) : CallsTo Try.prog 69 [.int .i64 x, .int .i64 y] w fun v w' => v = .int .i64 (cmpM x y) ∧ Grew w w' := by
  refine go_in (n := 20) (St.refl _ NoF) Try.func69 rfl rfl ?_
  repeat'(first|refine kv' ?_|apply jJ|refine jE' ?_|refine jp' ?_|(apply jc;kernel_rfl)|refine kg' ?_|refine kG' ?_|refine kB' fun _=>?_|refine kA' fun _=>?_|refine kK' fun _=>?_|refine kU' ?_|(apply kq;(·exact rfl);(·intro w1 h1;exact CallsTo.q (m91 _ w1) h1))|((first|refine kR' ?_ ?_|refine kQ' ?_ ?_);all_goals(intro hc;try simp only[hcs]at hc;try(exfalso;first|contradiction|omega))))
  all_goals (
    (apply ret1; (· exact rfl); intro w' hS)
    refine ⟨congrArg (Value.int .i64) ?_, hS⟩
    unfold cmpM; split <;> (try split) <;> omega)
theorem m85 (x y : Plc) (w : World) : CallsTo Try.prog 85 [x.val, y.val] w fun v w' => v = .int .i64 (cmpM x.ring y.ring) ∧ Grew w w' := by
  refine go_in (n := 10) (St.refl _ NoF) Try.func85 rfl rfl ?_
  repeat'(first|refine kv' ?_|apply jJ|refine jE' ?_|refine jp' ?_|(apply jc;kernel_rfl)|refine kg' ?_|refine kG' ?_|refine kB' fun _=>?_|refine kA' fun _=>?_|refine kK' fun _=>?_|refine kU' ?_|(apply kq;(·exact rfl);(·intro w1 h1;exact CallsTo.q (m69 _ _ w1) h1))|((first|refine kR' ?_ ?_|refine kQ' ?_ ?_);all_goals(intro hc;try simp only[hcs]at hc;try(exfalso;first|contradiction|omega))))
  (apply ret1; (· exact rfl); intro w' hS)
  exact ⟨rfl, hS.toKeep⟩
def zP : Plc := ⟨0, 0, 0, 0⟩
def cutP (l : List Plc) (x : Plc) : Nat → Nat
  | 0 => 0
  | k + 1 => if x.ring < (l.getD k zP).ring then cutP l x k else k + 1
theorem cutP_le (l : List Plc) (x : Plc) : ∀ k, cutP l x k ≤ k
  | 0 => Nat.le_refl _
  | k + 1 => by unfold cutP; split; (have := cutP_le l x k; omega); omega
def putP (l : List Plc) (x : Plc) : List Plc := l.take (cutP l x l.length) ++ x :: l.drop (cutP l x l.length)
theorem putP_len (l : List Plc) (x : Plc) : (putP l x).length = l.length + 1 := by
  have := cutP_le l x l.length
  unfold putP
  rw [List.length_append, List.length_cons, List.length_take, List.length_drop]
  omega
def isP (l : List Plc) : List Plc := l.foldl putP []
theorem isP_snoc (l : List Plc) (x : Plc) : isP (l ++ [x]) = putP (isP l) x := by unfold isP; rw [List.foldl_append]; rfl
theorem isP_len (l : List Plc) : (isP l).length = l.length := by
  have : ∀ (l m : List Plc), (l.foldl putP m).length = m.length + l.length := by
    intro l
    induction l with
    | nil => intro m; rfl
    | cons x r ih => intro m; rw [List.foldl_cons, ih, putP_len, List.length_cons]; omega
  have h := this l []
  simpa [isP] using h
theorem isP_take {B : List Plc} {k : Nat} (h : k < B.length) : isP (B.take (k + 1)) = putP (isP (B.take k)) B[k] := by
  rw [List.take_add_one, List.getElem?_eq_getElem h]; exact isP_snoc _ _
def onP (A S : List Plc) (x : Plc) (R : List Plc) (j : Nat) : List Plc := A ++ (S.take j ++ x :: (S.drop j ++ R))
theorem onP_len (A S R : List Plc) (x : Plc) {j : Nat} (h : j ≤ S.length) : (onP A S x R j).length = A.length + S.length + 1 + R.length := by
  unfold onP
  simp only [List.length_append, List.length_cons, List.length_take, List.length_drop]
  omega
theorem onP_at (A S R : List Plc) (x : Plc) {j : Nat} (h : j ≤ S.length) : (onP A S x R j)[A.length + j]? = some x := by
  unfold onP
  rw [List.getElem?_append_right (by omega), Nat.add_sub_cancel_left, List.getElem?_append_right (by rw [List.length_take]; omega), List.length_take, Nat.min_eq_left h, Nat.sub_self]
  rfl
theorem onP_before (A S R : List Plc) (x : Plc) {j : Nat} (h : j < S.length) : (onP A S x R (j + 1))[A.length + j]? = some S[j] := by
  unfold onP
  rw [List.getElem?_append_right (by omega), Nat.add_sub_cancel_left, List.getElem?_append_left (by rw [List.length_take]; omega), List.getElem?_take_of_lt (by omega), List.getElem?_eq_getElem h]
theorem onP_swap (A S R : List Plc) (x : Plc) {j : Nat} (h : j < S.length) : ((onP A S x R (j + 1)).set (A.length + j + 1) S[j]).set (A.length + j) x = onP A S x R j := by
  unfold onP
  have e1 : S.take (j + 1) = S.take j ++ [S[j]] := by rw [List.take_add_one, List.getElem?_eq_getElem h]; rfl
  have e2 : S.drop j = S[j] :: S.drop (j + 1) := List.drop_eq_getElem_cons h
  have hl : (S.take j).length = j := by rw [List.length_take]; omega
  rw [e1, e2, List.set_append_right _ _ (by omega), List.set_append_right _ _ (by omega)]
  rw [show A.length + j + 1 - A.length = j + 1 by omega, show A.length + j - A.length = j by omega]
  simp only [List.append_assoc, List.cons_append, List.nil_append]
  rw [List.set_append_right _ _ (by omega), List.set_append_right _ _ (by omega), hl, Nat.sub_self, show j + 1 - j = 1 by omega]
  rfl
theorem plc_len (p : Plc) : p.cells.length = 4 := rfl
theorem plc_one (p : Plc) : p.cells.all Value.oneCell' = true := rfl
abbrev pN (a : Option Addr) (n c : Nat) (D : List Plc) : Asrt := osl (.slice a n c) 44 4 n (pcs D)
theorem pcs_cell {w : World} {b o : Nat} {D : List Plc} {k : Nat} {x : Plc} (h : Rd w (some ⟨b, o, none⟩) (pcs D)) (hx : D[k]? = some x) {q : Nat} (hq : q = o + k * 4) : ∀ j v, (Plc.cells x)[j]? = some v → w.cell? ((⟨b, q, none⟩ : Addr).add j) = some v := by
  intro j v hj
  have hk : k < D.length := (List.getElem?_eq_some_iff.1 hx).1
  have e : D[k] = x := by rw [List.getElem?_eq_getElem hk] at hx; simpa using hx
  rw [hq]
  have h9 := rd_row (f := Plc.cells) (l := D) (i := k) (q := k * 4) plc_len h hk rfl j v
  rw [e] at h9
  exact h9 hj
theorem put_plc {b o n c q : Nat} {l : List Plc} (x : Plc) {k : Nat} (hk : k < l.length) (hq : q = o + k * 4) :
    Stores Try.prog 44 ⟨b, q, none⟩ x.val (pN (some ⟨b, o, none⟩) n c l) (pN (some ⟨b, o, none⟩) n c (l.set k x)) :=
  rows_store (P := Try.prog) (T := 44) (E := 44) (f := Plc.cells) inferInstance plc_len plc_one x hk hq
def sorP (D : List Plc) (lo k : Nat) : List Plc := D.take lo ++ (isP ((D.drop lo).take k) ++ D.drop (lo + k))
theorem sorP_len (D : List Plc) {lo k : Nat} (h : lo + k ≤ D.length) : (sorP D lo k).length = D.length := by
  unfold sorP
  simp only [List.length_append, List.length_take, List.length_drop, isP_len]
  omega
theorem sorP_one (D : List Plc) {lo : Nat} (h : lo < D.length) : sorP D lo 1 = D := by
  unfold sorP
  have e : (D.drop lo).take 1 = [D[lo]] := by rw [List.drop_eq_getElem_cons h]; rfl
  have e2 : isP [D[lo]] = [D[lo]] := rfl
  rw [e, e2, ← e, ← List.drop_drop, List.take_append_drop, List.take_append_drop]
theorem sorP_on {D : List Plc} {lo k : Nat} (h : lo + k < D.length) : sorP D lo k = onP (D.take lo) (isP ((D.drop lo).take k)) D[lo + k] (D.drop (lo + k + 1)) k := by
  unfold sorP onP
  have hl : (isP ((D.drop lo).take k)).length = k := by rw [isP_len, List.length_take, List.length_drop]; omega
  rw [List.take_of_length_le (l := isP ((D.drop lo).take k)) (by omega), List.drop_of_length_le (l := isP ((D.drop lo).take k)) (by omega), List.nil_append, ← List.drop_eq_getElem_cons h]
theorem sorP_next {D : List Plc} {lo k j : Nat} (h : lo + k < D.length) (hj : cutP (isP ((D.drop lo).take k)) D[lo + k] k = j) : onP (D.take lo) (isP ((D.drop lo).take k)) D[lo + k] (D.drop (lo + k + 1)) j = sorP D lo (k + 1) := by
  have hl : (isP ((D.drop lo).take k)).length = k := by rw [isP_len, List.length_take, List.length_drop]; omega
  have hk : k < (D.drop lo).length := by rw [List.length_drop]; omega
  unfold sorP
  rw [isP_take hk]
  have e : (D.drop lo)[k] = D[lo + k] := by rw [List.getElem_drop]
  rw [e]
  unfold putP onP
  rw [hl, hj]
  simp only [List.append_assoc, List.cons_append, Nat.add_assoc]
end Go.Proofs.Ytgblmkpfkcibiaa
